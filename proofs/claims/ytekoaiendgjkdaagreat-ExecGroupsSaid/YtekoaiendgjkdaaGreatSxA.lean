import Derived.Orders
import Derived.OrdersIn
import Derived.TacticsIn
import Derived.RangeFuncRecord
import Derived.Sort.LoopGhostIn
import Derived.Laws.Entries
import Derived.Laws.Cells
import Derived.Laws.StructEq
import Derived.IntWalk
set_option linter.unusedVariables false
set_option linter.unusedSimpArgs false
set_option linter.unusedSectionVars false
set_option linter.defProp false
namespace Go
def mQt:= @Nat.le_refl
def mXW:= @Nat.le_trans
def nQi:= @Array.getElem?_eq_none
def mQL:= @Sem.run_bind
def HH:= @List.getElem?_eq_some_iff
def mZT:= @Nat.add_zero
def nQg:= @List.getElem?_cons_zero
def nQj:= @Bool.and_eq_false_iff
def mQx:= @List.length_cons
def mJp:= @Array.getElem?_modify
def mKn:= @Array.toList_setIfInBounds
def mZR:= @Nat.add_assoc
def mXv:= @List.getD_eq_getElem?_getD
def mXr:= @Array.getElem?_eq_some_iff
def mXF:= @List.getElem?_set
def mXm:= @Array.getD_eq_getD_getElem?
def mKb:= @Array.getElem?_setIfInBounds_self_of_lt
def mJZ:= @Array.getElem?_setIfInBounds_ne
def mZr:= @List.map_cons
def mKC:= @List.zipIdx_cons
def mJP:= @List.foldl_cons
def mKB:= @Array.foldl_toList
def mKA:= @List.mapM_cons
def mQH:= @Result.andThen_ok
def mQV:= @Sem.run_pure
def mJv:= @Array.mapM_eq_mapM_toList
def mJu:= @Sem.run_map
def nQh:= @List.getElem?_toArray
def mXa:= @List.getElem?_take
def mXi:= @List.getElem?_drop
def mQB:= @of_decide_eq_true
def mXS:= @List.all_cons
def mQG:= @Bool.and_eq_true
def mQD:= @decide_eq_true_eq
def mZn:= @List.drop_drop
def mKz:= @Nat.add_comm
def mZm:= @Bool.not_eq_true'
def mQU:= @List.getElem?_map
def mZl:= @Option.isSome_iff_exists
def mXR:= @Array.getElem?_eq_getElem
def mKy:= @Array.toList_extract
def mXZ:= @Array.getElem?_toList
def mKx:= @List.foldlM_cons
def mKw:= @List.foldlM_nil
def mJt:= @List.replicate_succ
def mKv:= @List.flatten_cons
def mZz:= @List.getElem?_append_left
def mXM:= @List.getElem?_append_right
def mXu:= @Nat.succ_mul
def mXz:= @List.ext_getElem?
def mXw:= @Nat.eq_zero_or_pos
def mZy:= @Nat.mod_lt
def mXL:= @List.getElem?_eq_none
def mQT:= @List.eq_nil_of_length_eq_zero
def mXg:= @Nat.mul_le_mul_right
def mXd:= @List.append_assoc
def mJm:= @List.cons_append
def mQO:= @List.mem_map
def mXE:= @List.map_congr_left
def mJs:= @Array.toList_append
def mQv:= @List.mem_append
def mXf:= @List.all_eq_true
def mKu:= @Bool.not_true
def mZx:= @Bool.false_or
def mZk:= @List.contains_eq_mem
def mZQ:= @Bool.or_eq_true
def nQf:= @Array.getElem?_setIfInBounds
def mZw:= @List.mem_append_right
def mXK:= @List.mem_append_left
def mZP:= @List.getElem?_set_ne
def mZj:= @List.getElem?_set_self
def mQs:= @List.mem_cons
def mQE:= @List.mem_cons_self
def mQQ:= @List.mem_cons_of_mem
def mJl:= @Nat.le_of_not_lt
def mXY:= @Bool.false_eq_true
def mXt:= @List.mem_filter
def mZv:= @Bool.true_or
def mKt:= @Bool.not_false
def mZO:= @Bool.true_and
def nQe:= @List.eq_nil_iff_forall_not_mem
def mJk:= @List.mem_range
def mJr:= @List.all_eq_false
def nQd:= @List.countP_le_length
def mJq:= @Array.getElem?_replicate
def mXX:= @List.getElem?_append
def mXJ:= @List.getElem?_eq_getElem
def mKs:= @Array.getElem?_append_left
def mKr:= @List.getElem?_replicate
def mKq:= @Array.getElem?_append_right
def mXI:= @Option.getD_some
def mXD:= @Int.toNat_natCast
def mKp:= @Nat.mul_le_mul_left
def nX:= @List.length_append
def mXC:= @Nat.add_mul
def mQJ:= @Int.ofNat_eq_natCast
def mKo:= @Int.ofNat_le
def mJo:= @Int.natCast_mul
def mQY:= @Nat.zero_add
def mZi:= @List.getElem?_singleton
def mQS:= @Nat.lt_or_ge
def nQc:= @Int.fdiv_eq_ediv_of_nonneg
def mQA:= @List.mem_singleton
def GD:= @List.mem_of_getElem?
def mQZ:= @List.getElem?_of_mem
def mZu:= @Nat.lt_trichotomy
def mQN:= @List.pairwise_iff_getElem
def nM:= @decide_eq_false
def mQI:= @of_decide_eq_false
def mQw:= @List.length_take
def mQX:= @List.length_drop
def mZh:= @Nat.min_eq_left
def mKm:= @Nat.add_le_add_left
def mZN:= @Nat.mul_le_mul
def mQF:= @List.append_nil
def mXy:= @List.take_length
def mXl:= @List.drop_eq_nil_of_le
def mQM:= @List.take_of_length_le
def mXc:= @List.take_add_one
def mXj:= @List.take_append_drop
def mQr:= @Nat.zero_le
def nQb:= @List.set_eq_take_append_cons_drop
def mXB:= @List.map_map
def mQz:= @List.length_map
def mJj:= @Array.toList_filter
def mZM:= @List.filter_filter
def nQa:= @Array.contains_eq_mem
def mKl:= @Bool.not_eq_eq_eq_not
def mZg:= @List.getElem_map
def mXH:= @List.length_filter_le
def mKk:= @List.length_filter_eq_length_iff
def mKj:= @List.drop_left
def mQK:= @List.length_nil
def mKZ:= @List.take_append_of_le_length
def mZL:= @List.eraseIdx_eq_take_drop_succ
def mXo:= @List.length_set
def mZt:= @Nat.mul_one
def mQy:= @List.drop_eq_getElem_cons
def mZK:= @List.any_eq_true
def mKY:= @List.find?_eq_some_iff_getElem
def mKX:= @List.mem_zipIdx_iff_getElem?
def kS:= @decide_eq_true
def mJi:= @List.any_eq_false
def mKi:= @List.drop_length
def mKh:= @List.take_take
def mKg:= @Nat.min_self
def mKf:= @List.map_take
def mKe:= @List.map_drop
def mZf:= @List.filter_append
def mJh:= @Nat.sub_zero
def mXA:= @Nat.sub_self
def mJg:= @List.drop_succ_cons
def mQW:= @Decidable.not_not
def mZJ:= @Bool.and_true
def mKW:= @List.getElem?_zipWith
def mZe:= @Nat.le_of_lt
def mKd:= @List.findIdx?_eq_none_iff
def mKc:= @List.findIdx?_eq_some_iff_getElem
def mQu:= @List.length_singleton
def mJf:= @Nat.lt_or_gt_of_ne
def mZd:= @List.map_set
def mZI:= @List.getElem_set
def mZs:= @List.map_append
def mXQ:= @List.filter_cons_of_neg
def mZc:= @List.filter_cons_of_pos
def mXp:= @Int.le_refl
def mXV:= @Array.length_toList
def mXG:= @UInt8.toNat_inj
def mKa:= @Int.ofNat_inj
def mXP:= @UInt8.lt_iff_toNat_lt
def mJe:= @List.takeWhile_cons_of_pos
def mXO:= @List.nil_append
def mJY:= @List.length_eraseIdx_of_lt
def mXx:= @List.mem_or_eq_of_mem_set
def mJX:= @List.drop_zero
def mJW:= @List.rel_of_pairwise_cons
def mZH:= @List.getElem_of_mem
def mJV:= @List.eraseIdx_sublist
def mKV:= @List.mem_eraseIdx_iff_getElem
def mKU:= @List.length_zip
def mJU:= @List.getElem?_zip_eq_some
def mKT:= @List.getElem?_eq_none_iff
def mXN:= @List.mem_of_mem_take
def mXU:= @List.mem_of_mem_drop
def mXe:= @List.pairwise_append
def mJT:= @UInt8.lt_irrefl
def mJd:= @List.mem_map_of_mem
def mZq:= @List.mem_iff_getElem?
def mJS:= @List.mem_eraseIdx_iff_getElem?
def mJR:= @List.takeWhile_cons_of_neg
def mKS:= @List.takeWhile_sublist
def mKR:= @List.prefix_iff_eq_take
def mKQ:= @List.takeWhile_prefix
def mKP:= @List.singleton_append
def mXb:= @List.pairwise_cons
def mJQ:= @List.nil_perm
def mZp:= @List.pairwise_singleton
def mJc:= @List.getLast?_cons_cons
def mZb:= @List.mem_of_getLast?
def mKO:= @List.getLast?_eq_some_getLast
def mJO:= @List.mem_of_head?
def mJb:= @List.perm_append_comm
def mKN:= @ByteArray.data_extract
def mXT:= @Nat.lt_succ_self
def mJN:= @Int.tdiv_eq_ediv_of_nonneg
def mJa:= @Bool.or_eq_false_iff
def mJM:= @Nat.le_succ
def mZG:= @ByteArray.size_append
def mQR:= @List.drop_of_length_le
def mZF:= @Bool.true_eq_false
def mZE:= @Bool.not_eq_true
def mKM:= @Int.tmod_add_tdiv_mul
def mJL:= @Int.natAbs_tmod
def mZD:= @List.getLast?_eq_getElem?
def mXn:= @Nat.add_sub_cancel
def mKL:= @ByteArray.data_append
def mZo:= @UInt8.toNat_ofNat'
def mJK:= @List.contains_cons
def mJJ:= @List.contains_nil
def mJI:= @Bool.or_false
def mZZ:= @List.set_append_right
def mKK:= @List.mem_of_find?_eq_some
def mKJ:= @Nat.lt_of_succ_lt_succ
def mXs:= @List.length_eq_zero_iff
def mJH:= @Nat.le_total
def mJG:= @Nat.min_eq_right
def mZC:= @Nat.min_le_right
def mKI:= @List.length_replicate
def mZY:= @List.not_mem_nil
def mJF:= @Int.tmod_lt_of_pos
def mJE:= @Int.lt_tmod_of_pos
def mJD:= @Int.tmod_eq_emod
def mZB:= @Int.emod_nonneg
def mZA:= @Int.emod_lt_of_pos
def mKH:= @List.take_left
def mKG:= @Int.tmod_eq_emod_of_nonneg
def mJC:= @List.length_pos_iff
def mZX:= @List.perm_middle
def mKF:= @List.eq_nil_or_concat
def mKE:= @List.concat_eq_append
def mJB:= @List.set_comm
def mKD:= @Nat.add_sub_cancel_left
def mZW:= @Nat.lt_irrefl
def mJA:= @Int.lt_trichotomy
def mZV:= @List.filter_cons
def mJz:= @List.getLast?_eq_some_iff
def mJy:= @List.dropLast_concat
def mZa:= @Option.map_eq_some_iff
def mJx:= @List.getLast?_concat
def mJw:= @List.dropLast_sublist
def mZU:= @List.length_range
end Go
namespace Go.Sx
abbrev ad:=Nat->Option Obj
def Fo(h:ad)(w:World):Prop:=∀b o,h b=some o->w.heap[b]? =some o
structure bW(h:ad)(w:World)(h':ad)(w':World):Prop where
 os:w'.os=w.os
 tape:w'.tape=w.tape
 output:w'.output=w.output
 size:w.heap.size<=w'.heap.size
 IV:Fo h' w'
 frame:∀b,b<w.heap.size->h b=none->w'.heap[b]? =w.heap[b]? /\h' b=none
def Fn(P:Program)(f:FuncId)(args:List Value)(h:ad)(R:Value->ad->Prop):Prop:=
 ∀w,Fo h w->Calls P f args.toArray w fun e w'=>∃v h',e=.returned v/\R v h'/\bW h w h' w'
structure aQI(p:Unit->Program)(f:FuncId)(args:List Value)(h:ad)(R:Value->ad->Prop):Prop where
 out:Fn (p ()) f args h R
structure Rr(p:Unit->Program)(f:FuncId)(args:List Value)(h:ad)(R:Value->ad->Prop)(K:List PanicEntry->ad->Prop):Prop where
 out:∀w,Fo h w->Calls (p ()) f args.toArray w fun e w'=>(∃v h',e=.returned v/\R v h'/\bW h w h' w')\/(∃c h',e=.panicked c/\K c h'/\bW h w h' w')
structure cZH(p:Unit->Program)(l:Nat)(args:List Value)(h:ad)(R:Value->ad->Prop):Prop where
 out:∀w,Fo h w->∃fn tmps Fk body,(Instr.yield l args.toArray).run (p ()) w=.ok (.round l fn tmps Fk body) w/\∀n,RoundIn Fence.wide n (p ()) l fn tmps Fk body w fun e w'=>∃v h',e=.returned v/\R v h'/\bW h w h' w'
def bU(h:ad)(n:Nat)(o:Obj):ad:=fun b=>if b=n then some o else h b
def mS(a:Option Addr)(i:Int)(size:Nat):Addr:=((a.getD ⟨0,0,none⟩).add (i.toNat*size))
def bB(op:BinOp)(k:IntKind)(a b:Int):Int:=
 match op with
 | .add=>k.wrap (a+b)
 | .sub=>k.wrap (a-b)
 | .mul=>k.wrap (a*b)
 | .quo=>k.wrap (a.tdiv b)
 | .rem=>a.tmod b
 | .and=>k.wrap ((BitVec.ofInt k.bits a&&& BitVec.ofInt k.bits b).toNat)
 | .or=>k.wrap ((BitVec.ofInt k.bits a|||BitVec.ofInt k.bits b).toNat)
 | .xor=>k.wrap ((BitVec.ofInt k.bits a^^^BitVec.ofInt k.bits b).toNat)
 | .andNot=>k.wrap ((BitVec.ofInt k.bits a&&& ~~~ BitVec.ofInt k.bits b).toNat)
 | .shl=>k.wrap (a*2^(min b.toNat k.bits))
 | .shr=>a.fdiv (2^(min b.toNat k.bits))
 |_=>0
def aI(op:BinOp)(a b:Int):Bool:=
 match op with
 | .eql=>a==b
 | .neq=>a !=b
 | .lss=>decide (a<b)
 | .leq=>decide (a<=b)
 | .gtr=>decide (a>b)
 | .geq=>decide (a>=b)
 |_=>false
def iQ(op:BinOp)(a b:ByteArray):Bool:=
 match op with
 | .eql=>a.toList==b.toList
 | .neq=> !(a.toList==b.toList)
 | .lss=>Op.bytesLess a.toList b.toList
 | .leq=>Op.bytesLess a.toList b.toList||a.toList==b.toList
 | .gtr=> !(Op.bytesLess a.toList b.toList||a.toList==b.toList)
 | .geq=> !(Op.bytesLess a.toList b.toList)
 |_=>false
def EE(op:BinOp)(a b:Bool):Bool:=
 match op with
 | .eql=>a==b
 | .neq=> !(a==b)
 |_=>false
inductive Tg where
 |mS|ix|off|bB|aI|iQ|EE|not|and|cat|byte|sub|conv|nat|HO|cut|su|pM|imax|jO
abbrev Tg.T:Tg->Type
 | .mS=>Option Addr->Int->Nat->Addr
 | .ix=>Nat->Int->Nat->Nat
 | .off=>Addr->Nat->Addr
 | .bB=>BinOp->IntKind->Int->Int->Int
 | .aI=>BinOp->Int->Int->Bool
 | .iQ=>BinOp->ByteArray->ByteArray->Bool
 | .EE=>BinOp->Bool->Bool->Bool
 | .not=>Bool->Bool
 | .and=>Bool->Bool->Bool
 | .cat=>ByteArray->ByteArray->ByteArray
 | .byte=>ByteArray->Int->Int
 | .sub=>ByteArray->Int->Int->ByteArray
 | .conv=>IntKind->Int->Int
 | .nat=>Nat->Int
 | .HO=>Option Addr->Bool
 | .cut=>Option Addr->Int->Int->Nat->Option Addr
 | .su=>Int->Int->Nat
 | .pM=>Int->Int->Int
 | .imax=>Int->Int->Int
 | .jO=>ByteArray->Int
abbrev Ar:=(t:Tg)->t.T
def Ar.mS(A:Ar):Option Addr->Int->Nat->Addr:=A .mS
def Ar.ix(A:Ar):Nat->Int->Nat->Nat:=A .ix
def Ar.off(A:Ar):Addr->Nat->Addr:=A .off
def Ar.bB(A:Ar):BinOp->IntKind->Int->Int->Int:=A .bB
def Ar.aI(A:Ar):BinOp->Int->Int->Bool:=A .aI
def Ar.iQ(A:Ar):BinOp->ByteArray->ByteArray->Bool:=A .iQ
def Ar.EE(A:Ar):BinOp->Bool->Bool->Bool:=A .EE
def Ar.not(A:Ar):Bool->Bool:=A .not
def Ar.and(A:Ar):Bool->Bool->Bool:=A .and
def Ar.cat(A:Ar):ByteArray->ByteArray->ByteArray:=A .cat
def Ar.byte(A:Ar):ByteArray->Int->Int:=A .byte
def Ar.sub(A:Ar):ByteArray->Int->Int->ByteArray:=A .sub
def Ar.conv(A:Ar):IntKind->Int->Int:=A .conv
def Ar.nat(A:Ar):Nat->Int:=A .nat
def Ar.HO(A:Ar):Option Addr->Bool:=A .HO
def Ar.cut(A:Ar):Option Addr->Int->Int->Nat->Option Addr:=A .cut
def Ar.su(A:Ar):Int->Int->Nat:=A .su
def Ar.pM(A:Ar):Int->Int->Int:=A .pM
def Ar.imax(A:Ar):Int->Int->Int:=A .imax
def Ar.jO(A:Ar):ByteArray->Int:=A .jO
class bM (A:Ar):Prop where
 mS:A .mS=Sx.mS
 ix:A .ix=fun o i n=>o+i.toNat*n
 off:A .off=fun a n=>a.add n
 bB:A .bB=Sx.bB
 aI:A .aI=Sx.aI
 iQ:A .iQ=Sx.iQ
 EE:A .EE=Sx.EE
 not:A .not=fun b=> !b
 and:A .and=fun a b=>a&&b
 cat:A .cat=fun a b=>a++b
 byte:A .byte=fun s i=>((s.data.getD i.toNat 0).toNat:Int)
 sub:A .sub=fun s l h=>s.extract l.toNat h.toNat
 conv:A .conv=fun k n=>k.wrap n
 nat:A .nat=Int.ofNat
 HO:A .HO=fun a=>a.isNone
 cut:A .cut=fun a l m size=>if m=l then a else a.map (·.add (l.toNat*size))
 su:A .su=fun h l=>(h-l).toNat
 pM:A .pM=fun a b=>min a b
 imax:A .imax=fun a b=>max a b
 jO:A .jO=fun s=>(s.size:Int)
theorem Ar.yq(A:Ar)[bM A]:A.mS=Sx.mS:=bM.mS
theorem Ar.fQG(A:Ar)[bM A]:A.ix=fun o i n=>o+i.toNat*n:=bM.ix
theorem Ar.dZz(A:Ar)[bM A]:A.off=fun a n=>a.add n:=bM.off
theorem Ar.Bm(A:Ar)[bM A]:A.bB=Sx.bB:=bM.bB
theorem Ar.aJW(A:Ar)[bM A]:A.aI=Sx.aI:=bM.aI
theorem Ar.aZe(A:Ar)[bM A]:A.iQ=Sx.iQ:=bM.iQ
theorem Ar.UB(A:Ar)[bM A]:A.EE=Sx.EE:=bM.EE
theorem Ar.not_eq(A:Ar)[bM A]:A.not=fun b=> !b:=bM.not
theorem Ar.and_eq(A:Ar)[bM A]:A.and=fun a b=>a&&b:=bM.and
theorem Ar.eXd(A:Ar)[bM A]:A.cat=fun a b=>a++b:=bM.cat
theorem Ar.cZn(A:Ar)[bM A]:A.byte=fun s i=>((s.data.getD i.toNat 0).toNat:Int):=bM.byte
theorem Ar.sub_eq(A:Ar)[bM A]:A.sub=fun s l h=>s.extract l.toNat h.toNat:=bM.sub
theorem Ar.cXZ(A:Ar)[bM A]:A.conv=fun k n=>k.wrap n:=bM.conv
theorem Ar.nat_eq(A:Ar)[bM A]:A.nat=Int.ofNat:=bM.nat
theorem Ar.aJH(A:Ar)[bM A]:A.HO=fun a=>a.isNone:=bM.HO
theorem Ar.Iz(A:Ar)[bM A]:A.cut=fun a l m size=>if m=l then a else a.map (·.add (l.toNat*size)):=bM.cut
theorem Ar.Ey(A:Ar)[bM A]:A.su=fun h l=>(h-l).toNat:=bM.su
theorem Ar.cQm(A:Ar)[bM A]:A.pM=fun a b=>min a b:=bM.pM
theorem Ar.cQn(A:Ar)[bM A]:A.imax=fun a b=>max a b:=bM.imax
theorem Ar.aXQ(A:Ar)[bM A]:A.jO=fun s=>(s.size:Int):=bM.jO
def Ar.gZP:Ar
 | .mS=>Sx.mS
 | .ix=>fun o i n=>o+i.toNat*n
 | .off=>fun a n=>a.add n
 | .bB=>Sx.bB
 | .aI=>Sx.aI
 | .iQ=>Sx.iQ
 | .EE=>Sx.EE
 | .not=>fun b=> !b
 | .and=>fun a b=>a&&b
 | .cat=>fun a b=>a++b
 | .byte=>fun s i=>((s.data.getD i.toNat 0).toNat:Int)
 | .sub=>fun s l h=>s.extract l.toNat h.toNat
 | .conv=>fun k n=>k.wrap n
 | .nat=>Int.ofNat
 | .HO=>fun a=>a.isNone
 | .cut=>fun a l m size=>if m=l then a else a.map (·.add (l.toNat*size))
 | .su=>fun h l=>(h-l).toNat
 | .pM=>fun a b=>min a b
 | .imax=>fun a b=>max a b
 | .jO=>fun s=>(s.size:Int)
theorem Ar.ex:∃A:Ar,bM A:=⟨Ar.gZP,⟨rfl,rfl,rfl,rfl,rfl,rfl,rfl,rfl,rfl,rfl,rfl,rfl,rfl,rfl,rfl,rfl,rfl,rfl,rfl,rfl⟩⟩
inductive Kd where
 |none
 |jQr
 |bool
 |int (k:IntKind)
 |str
 |fw (fs:List (Nat×Nat))
 |arr (n e:Nat)
 |uD (e:Nat)
 |mp (k e:Nat)
 |ptr (e:Nat)
 |fn
 |jXb
 deriving Inhabited
structure Ti where
 flat:Bool
 agg:Bool
 size:Nat
 bytes:Nat
 zero:List Value
 kd:Kd
def Ti.none:Ti:=⟨false,false,0,0,[],.none⟩
def sF:TypeDesc->Kd
 | .bool=>.bool
 | .int k=>.int k
 | .string=>.str
 | .struct fs=>.fw (fs.toList.map fun f=>(f.type,f.offset))
 | .array n e=>.arr n e
 | .slice e=>.uD e
 | .map k e=>.mp k e
 | .pointer e=>.ptr e
 | .func .. =>.fn
 | .interface _=>.jXb
 |_=>.jQr
def Ul(P:Program)(t:TypeId):TypeDesc->Bool
 | .struct fs=> !P.eqGuardType P.depth t&& !P.stoodInHeld t&&(fs.toList.zipIdx.all fun(f,i)=>f.offset==i&&decide (f.name≠ "_")&&(match P.info? f.type,P.underlying f.type with
  |some i,some .bool|some i,some (.int _) |some i,some .string=>i.size==1
  |_,_=>false))
 |_=>false
def dZN(P:Program)(t:TypeId):Ti:=
 match P.info? t,P.underlying t with
 |some i,some d=>
  match i.zero with
  |some z=>⟨Ul P t d,match d with| .struct _| .array _ _=>true|_=>false,i.size,i.bytes,z.cells.toList,sF d⟩
  |none=>.none
 |_,_=>.none
inductive zX where
 |done
 |aa (i:Nat) (rest:zX)
 |av (i:Nat) (pins:List Nat) (rest:zX)
 |fork (l r:zX)
 deriving Inhabited
inductive SV where
 |v (x:Value)
 |loc (s off:Nat)
 |u
 deriving Inhabited
structure bu where
 ty:Nat->Ti
 fn:Nat->Bool
 aK:Nat->zX
 bF:Nat->Bool
 kZm:Nat->Bool:=fun _=>false
 rs:List Nat:=[]
 kp:List PanicEntry->List SV->ad->Prop:=fun _ _ _=>False
structure gE(P:Program)(T:bu):Prop where
 ty:∀t,T.ty t=dZN P t\/T.ty t=.none
 fn:∀f,T.fn f=true->∃fn,P.funcs[f]? =some fn/\fn.body.isSome=true/\fn.name≠ "runtime.NumGoroutine"
 mixed:P.follows .mixedOrders=true
abbrev Env:=List SV
abbrev Loc:=List (Nat×List Value)
def mM:Loc->Nat->Option (List Value)
 | [],_=>none
 | (s,c)::r,t=>if s=t then some c else mM r t
def Bz:Loc->Nat->List Value->Loc
 | [],_,_=>[]
 | (s,c)::r,t,d=>if s=t then(s,d)::r else(s,c)::Bz r t d
def rq(env:Env):Operand->SV
 | .tmp t=>env.getD t .u
 | .const v=>.v v
 | .global g=>.v (.pointer (some ⟨g,0,none⟩))
 | .func f=>.v (.func (.func f) #[] #[])
def bl:List SV->Option (List Value)
 | []=>some []
 | .v x::r=>match bl r with
  |some l=>some (x::l)
  |none=>none
 |_::_=>none
structure wI(p:Unit->Prop)(k:Unit->Prop):Prop where
 h:p ()
 out:k ()
def Sw(h:ad)(a:Addr)(n:Nat)(cs:List Value):Prop:=
 a.spot=none/\cs.length=n/\∃c e fr,h a.block=some (.cells c e fr)/\∀i,i<n->c[a.off+i]? =cs[i]?
structure Bn(h:ad)(a:Addr)(n:Nat)(k:List Value->Prop):Prop where
 out:∃cs,Sw h a n cs/\k cs
def ZR:Bool->(Unit->Prop)->(Unit->Prop)->Prop
 |true,a,_=>a ()
 |false,_,b=>b ()
def takeN(c:List Value)(off n:Nat):Option (List Value):=
 if off+n<=c.length then some ((c.drop off).take n)else none
def jS(c:List Value)(off:Nat):List Value->List Value
 | []=>c
 |x::r=>jS (c.set off x) (off+1) r
structure EG(p:Unit->Program)(s:Unit->Sem Value)(k:Value->Prop):Prop where
 out:∃v,(∀w,(s ()).run (p ()) w=.ok v w)/\k v
structure fW(p:Unit->Program)(s:Unit->Sem Value)(h:ad)(k:Value->ad->Prop):Prop where
 out:∀w,Fo h w->∃v w' h',(s ()).run (p ()) w=.ok v w'/\k v h'/\bW h w h' w'
def Iu(g:FuncId)(args:List Value):Sem Value:=do
 match <-callFunc g args.toArray with
 | .value v=>pure v
 |_=>stuck ""
def cZp(A:Ar)(op:BinOp):Value->Value->Option Value
 | .int k a,.int k' b=>
  match op with
  | .add| .sub| .mul| .and| .or| .xor| .andNot=>if k=k' then some (.int k (A.bB op k a b))else none
  | .eql| .neq| .lss| .leq| .gtr| .geq=>if k=k' then some (.bool (A.aI op a b))else none
  |_=>none
 | .string a,.string b=>
  match op with
  | .eql| .neq| .lss| .leq| .gtr| .geq=>some (.bool (A.iQ op a b))
  |_=>none
 |_,_=>none
def QZ(A:Ar)(op:BinOp)(a b:Value)(k:Value->Prop)(cXL:Unit->Prop):Prop:=
 match a with
 | .int ka x=>match b with
  | .int kb y=>match op with
   | .quo| .rem=>match decide (ka=kb)with
    |true=>wI (fun _=>y≠0) (fun _=>k (.int ka (A.bB op ka x y)))
    |false=>cXL ()
   | .shl| .shr=>wI (fun _=>0<=y) (fun _=>k (.int ka (A.bB op ka x y)))
   |_=>cXL ()
  |_=>cXL ()
 | .string x=>match b with
  | .string y=>match op with
   | .add=>wI (fun _=>((x.size+y.size:Nat):Int)<=2^62) (fun _=>k (.string (A.cat x y)))
   |_=>cXL ()
  |_=>cXL ()
 |_=>cXL ()
def one:Value->Bool
 | .agg _| .tuple _=>false
 |_=>true
def oS:List Value->Bool
 | []=>true
 |x::r=>match one x with
  |true=>oS r
  |false=>false
def Ir(place:Nat->Option (Nat×Nat))(cells:List Value):List (Nat×Value)->Option (List Value)
 | []=>some cells
 | (i,v)::rest=>
  match place i with
  |none=>none
  |some (off,size)=>
   if v.cells.toList.length≠size||off+v.cells.toList.length>cells.length then none
   else Ir place (jS cells off v.cells.toList) rest
def mi(A:Ar)(ty:Nat->Ti):List (Nat×Nat)->List Value->List Value->Option Bool
 | [],[],[]=>some true
 | (t,_)::fs,x::r,y::q=>match (ty t).kd with
  | .int _=>match x with
   | .int k a=>match y with
    | .int k' b=>match decide (k=k')with
     |true=>match mi A ty fs r q with
      |some t=>some (A.and (A.aI .eql a b) t)
      |none=>none
     |false=>none
    |_=>none
   |_=>none
  | .str=>match x with
   | .string a=>match y with
    | .string b=>match mi A ty fs r q with
     |some t=>some (A.and (A.iQ .eql a b) t)
     |none=>none
    |_=>none
   |_=>none
  | .bool=>match x with
   | .bool a=>match y with
    | .bool b=>match mi A ty fs r q with
     |some t=>some (A.and (A.EE .eql a b) t)
     |none=>none
    |_=>none
   |_=>none
  |_=>none
 |_,_,_=>none
def neg(A:Ar)(op:BinOp)(b:Bool):Option Value:=
 match op with
 | .eql=>some (.bool b)
 | .neq=>some (.bool (A.not b))
 |_=>none
def eQU(A:Ar)(ty:Nat->Ti)(i:Ti)(op:BinOp)(x y:Value):Option Value:=
 match i.kd with
 | .uD _=>match x with
  | .slice b _ _=>match y with
   | .slice none _ _=>neg A op (A.HO b)
   |_=>none
  |_=>none
 | .bool=>match x with
  | .bool a=>match y with
   | .bool b=>neg A op (A.EE .eql a b)
   |_=>none
  |_=>none
 | .fw fs=>match i.flat with
  |true=>match x with
   | .agg a=>match y with
    | .agg b=>match mi A ty fs a.toList b.toList with
     |some t=>neg A op t
     |none=>none
    |_=>none
   |_=>none
  |false=>none
 |_=>none
def pY(ρ:Operand->SV):List (Nat×Operand)->Option (List (Nat×Value))
 | []=>some []
 | (i,x)::r=>match ρ x,pY ρ r with
  | .v y,some l=>some ((i,y)::l)
  |_,_=>none
def Kd.isNone:Kd->Bool
 | .none=>true
 |_=>false
def placesOf(T:bu):List (Nat×Nat)->Option (List (Nat×Nat))
 | []=>some []
 | (t,off)::r=>match (T.ty t).kd.isNone,placesOf T r with
  |false,some l=>some ((off,(T.ty t).size)::l)
  |_,_=>none
def UA(T:bu)(zero:List Value)(ps:List (Nat×Value)):Kd->Option (List Value)
 | .fw fs=>match placesOf T fs with
  |some l=>Ir (fun i=>l[i]?) zero ps
  |none=>none
 | .arr _ e=>match (T.ty e).kd.isNone with
  |false=>Ir (fun i=>some (i*(T.ty e).size,(T.ty e).size)) zero ps
  |true=>none
 |_=>none
def bJV(ρ:Operand->SV):Option Operand->Option (Option Int)
 |none=>some none
 |some x=>match ρ x with
  | .v (.int _ n)=>some (some n)
  |_=>none
def GV(A:Ar)(b:Option Addr)(len cap size:Nat)(l hh m:Option Int)(k:Value->Prop):Prop:=
 match m with
 |none=>match hh with
  |none=>match l with
   |none=>k (.slice b len cap)
   |some l=>wI (fun _=>0<=l/\l<=(len:Int)) (fun _=>k (.slice (A.cut b l (A.nat cap) size) (A.su (A.nat len) l) (A.su (A.nat cap) l)))
  |some q=>match l with
   |none=>wI (fun _=>0<=q/\q<=(cap:Int)) (fun _=>k (.slice (A.cut b 0 (A.nat cap) size) (A.su q 0) cap))
   |some l=>wI (fun _=>0<=q/\q<=(cap:Int)/\0<=l/\l<=q) (fun _=>k (.slice (A.cut b l (A.nat cap) size) (A.su q l) (A.su (A.nat cap) l)))
 |some m=>match hh with
  |none=>False
  |some q=>match l with
   |none=>wI (fun _=>0<=m/\m<=(cap:Int)/\0<=q/\q<=m) (fun _=>k (.slice (A.cut b 0 m size) (A.su q 0) (A.su m 0)))
   |some l=>wI (fun _=>0<=m/\m<=(cap:Int)/\0<=q/\q<=m/\0<=l/\l<=q) (fun _=>k (.slice (A.cut b l m size) (A.su q l) (A.su m l)))
def GW(A:Ar)(s:ByteArray)(l hh:Option Int)(k:Value->Prop):Prop:=
 match hh with
 |none=>match l with
  |none=>k (.string s)
  |some l=>wI (fun _=>0<=l/\l<=(s.size:Int)) (fun _=>k (.string (A.sub s l (A.jO s))))
 |some q=>match l with
  |none=>wI (fun _=>0<=q/\q<=(s.size:Int)) (fun _=>k (.string (A.sub s 0 q)))
  |some l=>wI (fun _=>0<=q/\q<=(s.size:Int)/\0<=l/\l<=q) (fun _=>k (.string (A.sub s l q)))
def nN(T:bu)(o:Oper):Bool:=
 match o.op with
 | .convert s d _=>match (T.ty s).kd with
  | .uD _=>false
  | .ptr _=>false
  |_=>match (T.ty d).kd with
   | .uD _=>false
   |_=>true
 | .move _| .pick .. | .build .. | .load .. | .nilCheck _| .binOp .. | .unOp .. | .makeInterface .. | .makeFunc .. | .slice .. | .fieldAddr .. | .field .. | .indexAddr .. | .index .. | .extract .. | .typeAssert .. =>true
 | .alloc _| .box .. =>match o.dst with
  |some d=> !T.bF d
  |none=>false
 | .call { callee:=.builtin b, .. }=>match b with
  | .len| .cap| .min| .max=>true
  |_=>false
 |_=>false
def uF(agg:Bool)(cs:List Value)(k:Value->Prop):Prop:=
 match agg with
 |true=>k (.agg cs.toArray)
 |false=>match cs with
  |x::_=>k x
  | []=>False
def kG(A:Ar)(T:bu)(p:Unit->Program)(o:Oper)(ρ:Operand->SV)(L:Loc)(h:ad)(k:SV->Option (List Value)->Prop):Prop:=
 match o.op with
 | .move x=>k (ρ x) none
 | .pick c a b=>match ρ c with
  | .v (.bool true)=>k (ρ a) none
  | .v (.bool false)=>k (ρ b) none
  |_=>False
 | .alloc e=>match (T.ty e).kd.isNone with
  |true=>False
  |false=>match o.dst with
   |none=>False
   |some d=>match mM L d with
    |none=>k (.loc d 0) (some (T.ty e).zero)
    |some _=>False
 | .box _ x=>match o.dst with
  |none=>False
  |some d=>match ρ x with
   | .v v=>match mM L d with
    |none=>k (.loc d 0) (some v.cells.toList)
    |some _=>False
   |_=>False
 | .load t a=>match (T.ty t).kd.isNone with
  |true=>False
  |false=>match ρ a with
   | .loc s off=>match mM L s with
    |some c=>match takeN c off (T.ty t).size with
     |some cs=>uF (T.ty t).agg cs (fun x=>k (.v x) none)
     |none=>False
    |none=>False
   | .v (.pointer (some x))=>Bn h x (T.ty t).size (fun cs=>uF (T.ty t).agg cs (fun x=>k (.v x) none))
   |_=>False
 | .nilCheck x=>match ρ x with
  | .loc s off=>k (.loc s off) none
  | .v (.pointer (some a))=>k (.v (.pointer (some a))) none
  |_=>False
 | .fieldAddr t x f=>match (T.ty t).kd with
  | .fw fs=>match fs[f]? with
   |some (ft,off)=>match (T.ty ft).kd.isNone with
    |true=>False
    |false=>match (T.ty ft).size with
     |0=>False
     |_+1=>match ρ x with
      | .loc s o=>k (.loc s (o+off)) none
      | .v (.pointer (some a))=>k (.v (.pointer (some (A.off a off)))) none
      |_=>False
   |none=>False
  |_=>False
 | .indexAddr t x i=>match ρ i with
  | .v (.int _ n)=>match (T.ty t).kd with
   | .uD e=>match (T.ty e).kd.isNone with
    |true=>False
    |false=>match ρ x with
     | .v (.slice b len _)=>wI (fun _=>b.isSome=true/\0<=n/\n<(len:Int)) (fun _=>k (.v (.pointer (some (A.mS b n (T.ty e).size)))) none)
     |_=>False
   | .arr m e=>match (T.ty e).kd.isNone with
    |true=>False
    |false=>match ρ x with
     | .loc s off=>wI (fun _=>0<=n/\n<(m:Int)) (fun _=>k (.loc s (A.ix off n (T.ty e).size)) none)
     | .v (.pointer (some a))=>wI (fun _=>0<=n/\n<(m:Int)) (fun _=>k (.v (.pointer (some (A.mS (some a) n (T.ty e).size)))) none)
     |_=>False
   |_=>False
  |_=>False
 | .index t x i=>match ρ i with
  | .v (.int _ n)=>match (T.ty t).kd with
   | .str=>match ρ x with
    | .v (.string s)=>wI (fun _=>0<=n/\n<(s.size:Int)) (fun _=>k (.v (.int .u8 (A.byte s n))) none)
    |_=>False
   |_=>False
  |_=>False
 | .field t x f=>match (T.ty t).kd with
  | .fw fs=>match fs[f]? with
   |some (ft,off)=>match (T.ty ft).kd.isNone with
    |true=>False
    |false=>match ρ x with
     | .v (.agg cs)=>match takeN cs.toList off (T.ty ft).size with
      |some ds=>uF (T.ty ft).agg ds (fun x=>k (.v x) none)
      |none=>False
     |_=>False
   |none=>False
  |_=>False
 | .extract x i=>match ρ x with
  | .v (.tuple vs)=>match vs.toList[i]? with
   |some v=>k (.v v) none
   |none=>False
  |_=>False
 | .build t parts=>match (T.ty t).kd.isNone with
  |true=>False
  |false=>match pY ρ parts.toList with
   |some ps=>match UA T (T.ty t).zero ps (T.ty t).kd with
    |some cs=>k (.v (.agg cs.toArray)) none
    |none=>False
   |none=>False
 | .binOp op t x y _=>match ρ x with
  | .v a=>match ρ y with
   | .v b=>match cZp A op a b with
    |some r=>k (.v r) none
    |none=>match eQU A T.ty (T.ty t) op a b with
     |some r=>k (.v r) none
     |none=>QZ A op a b (fun r=>k (.v r) none) (fun _=>EG p (fun _=>do eqGuard op t x y a b;binOp op t a b) (fun r=>k (.v r) none))
   |_=>False
  |_=>False
 | .unOp op _ x=>match ρ x with
  | .v (.bool b)=>match op with
   | .not=>k (.v (.bool (A.not b))) none
   |_=>False
  | .v (.int kd n)=>match op with
   | .neg=>k (.v (.int kd (A.bB .sub kd 0 n))) none
   |_=>False
  |_=>False
 | .convert src dst x=>match ρ x with
  | .v (.int j n)=>match (T.ty dst).kd with
   | .int kd=>match (T.ty src).kd with
    | .int _=>k (.v (.int kd (A.conv kd n))) none
    |_=>False
   |_=>EG p (fun _=>Go.convert src dst (.int j n)) (fun r=>k (.v r) none)
  | .v a=>EG p (fun _=>Go.convert src dst a) (fun r=>k (.v r) none)
  |_=>False
 | .makeInterface t x=>match (T.ty t).kd with
  | .jXb=>False
  | .none=>False
  |_=>match ρ x with
   | .v v=>k (.v (.iface t v)) none
   |_=>False
 | .makeFunc fn f c=>match bl (f.toList.map ρ)with
  |some fs=>match bl (c.toList.map ρ)with
   |some cs=>k (.v (.func fn fs.toArray cs.toArray)) none
   |none=>False
  |none=>False
 | .slice t x lo hi mx=>match bJV ρ lo,bJV ρ hi,bJV ρ mx with
  |some l,some hh,some m=>match (T.ty t).kd with
   | .uD e=>match (T.ty e).kd.isNone with
    |true=>False
    |false=>match ρ x with
     | .v (.slice b len cap)=>GV A b len cap (T.ty e).size l hh m (fun r=>k (.v r) none)
     |_=>False
   | .str=>match ρ x with
    | .v (.string s)=>match m with
     |none=>GW A s l hh (fun r=>k (.v r) none)
     |some _=>False
    |_=>False
   |_=>False
  |_,_,_=>False
 | .call { callee:=.builtin b,args,argTypes }=>match b with
  | .len=>match argTypes[0]? with
   |some t=>match bl (args.toList.map ρ)with
    |some [.slice _ n _]=>match (T.ty t).kd with
     | .uD _=>k (.v (.int .i64 (A.nat n))) none
     |_=>False
    |some [.string s]=>match (T.ty t).kd with
     | .str=>k (.v (.int .i64 (A.jO s))) none
     |_=>False
    |_=>False
   |none=>False
  | .cap=>match argTypes[0]? with
   |some t=>match bl (args.toList.map ρ)with
    |some [.slice _ _ n]=>match (T.ty t).kd with
     | .uD _=>k (.v (.int .i64 (A.nat n))) none
     |_=>False
    |_=>False
   |none=>False
  | .min=>match bl (args.toList.map ρ)with
   |some [.int kd a,.int _ b]=>k (.v (.int kd (A.pM a b))) none
   |_=>False
  | .max=>match bl (args.toList.map ρ)with
   |some [.int kd a,.int _ b]=>k (.v (.int kd (A.imax a b))) none
   |_=>False
  |_=>False
 | .typeAssert x q as ok=>match ρ x with
  | .v a=>EG p (fun _=>Instr.typeAssert a q as ok) (fun r=>k (.v r) none)
  |_=>False
 |_=>False
structure Rn(h:ad)(a:Addr)(cs:List Value)(k:ad->Prop):Prop where
 out:∃c e fr,a.spot=none/\h a.block=some (.cells c e fr)/\a.off+cs.length<=c.size/\(∀i,i<cs.length->¬(fr.1<=a.off+i/\a.off+i<fr.2))/\
  ∀h',h'=bU h a.block (.cells (jS c.toList a.off cs).toArray e fr)->k h'
def dXU(h:ad)(b:Option Addr)(n:Nat)(cs:List Value):Prop:=
 (n=0/\cs=[])\/∃a,b=some a/\Sw h a n cs
def dQA(h:ad)(b:Option Addr)(cs:List Value)(k:ad->Prop):Prop:=
 (cs=[]/\k h)\/∃a,b=some a/\Rn h a cs k
def kx(n:Nat)(z:List Value):List Value:=(List.replicate n z).flatten
structure Jc(h:ad)(b:Option Addr)(len cap n size bytes e:Nat)(new:List Value)(k:Value->ad->Prop):Prop where
 one:oS new=true
 fits:len+n<=cap->dQA h (b.map (·.add (len*size))) new (fun h'=>k (.slice b (len+n) cap) h')
 cKO:cap<len+n->2*(len+n)*bytes<=2^48/\len+n<=2^48/\∃aZL,dXU h b (len*size) aZL/\
  ∀nb c h' rest,h nb=none->len+n<=c->rest.length=(c-(len+n))*size->h'=bU h nb (.cells (aZL++new++rest).toArray e (0,0))->k (.slice (some ⟨nb,0,none⟩) (len+n) c) h'
structure dQC(h:ad)(b:Option Addr)(len cap n size bytes e:Nat)(z:List Value)(k:Value->ad->Prop):Prop where
 out:Jc h b len cap n size bytes e (kx n z) k
structure iU(h:ad)(b:Option Addr)(len cap:Nat)(x:Option Addr)(n size bytes e:Nat)(k:Value->ad->Prop):Prop where
 out:∃new,dXU h x (n*size) new/\Jc h b len cap n size bytes e new k
structure Aw(h:ad)(e:Nat)(l c:Int)(bytes:Nat)(z:List Value)(k:Value->ad->Prop):Prop where
 len:0<=l/\l<=c
 room:c<=2^48/\(bytes:Int)*c<=2^48
 out:∀nb h',h nb=none->h'=bU h nb (.cells (kx c.toNat z).toArray e (0,0))->k (.slice (some ⟨nb,0,none⟩) l.toNat c.toNat) h'
structure Ja(h:ad)(b:Option Addr)(len:Nat)(x:Option Addr)(n size:Nat)(k:Value->ad->Prop):Prop where
 out:∃cs,dXU h x (min n len*size) cs/\oS cs=true/\dQA h b cs (fun h'=>k (.int .i64 ((min n len:Nat):Int)) h')
structure Bo(h:ad)(b:Option Addr)(len:Nat)(z:List Value)(k:ad->Prop):Prop where
 one:oS z=true
 out:dQA h b (kx len z) k
def hx(A:Ar)(T:bu)(p:Unit->Program)(o:Oper)(ρ:Operand->SV)(L:Loc)(h:ad)(k:SV->Loc->ad->Prop):Prop:=
 match o.op with
 | .assign x=>k (ρ x) L h
 | .store t a x=>match (T.ty t).kd.isNone with
  |true=>False
  |false=>match ρ x with
   | .v v=>match v.cells.toList.length==(T.ty t).size with
    |false=>False
    |true=>match oS v.cells.toList with
     |false=>False
     |true=>match ρ a with
      | .loc s off=>match mM L s with
       |some c=>match decide (off+v.cells.toList.length<=c.length)with
        |true=>k (.v undef) (Bz L s (jS c off v.cells.toList)) h
        |false=>False
       |none=>False
      | .v (.pointer (some y))=>Rn h y v.cells.toList (fun h'=>k (.v undef) L h')
      |_=>False
   |_=>False
 | .alloc e=>match (T.ty e).kd.isNone with
  |true=>False
  |false=>∀n h',h n=none->h'=bU h n (.cells (T.ty e).zero.toArray e (0,0))->k (.v (.pointer (some ⟨n,0,none⟩))) L h'
 | .box e x=>match ρ x with
  | .v v=>∀n h',h n=none->h'=bU h n (.cells v.cells e (0,0))->k (.v (.pointer (some ⟨n,0,none⟩))) L h'
  |_=>False
 | .buildSlice t len parts=>match (T.ty t).kd with
  | .uD e=>match (T.ty e).kd.isNone with
   |true=>False
   |false=>match pY ρ parts.toList with
    |some ps=>match decide (len*(T.ty e).size<=2^24),(T.ty e).zero.length==(T.ty e).size with
     |true,true=>match Ir (fun i=>some (i*(T.ty e).size,(T.ty e).size)) (kx len (T.ty e).zero) ps with
      |some cs=>∀n h',h n=none->h'=bU h n (.cells cs.toArray e (0,0))->k (.v (.slice (some ⟨n,0,none⟩) len len)) L h'
      |none=>False
     |_,_=>False
    |none=>False
  |_=>False
 | .makeSlice t l c=>match (T.ty t).kd with
  | .uD e=>match (T.ty e).kd.isNone with
   |true=>False
   |false=>match ρ l with
    | .v (.int _ l)=>match ρ c with
     | .v (.int _ c)=>match (T.ty e).zero.length==(T.ty e).size with
      |true=>Aw h e l c (T.ty e).bytes (T.ty e).zero (fun x h'=>k (.v x) L h')
      |false=>False
     |_=>False
    |_=>False
  |_=>False
 | .makeMap t r=>match r with
  |none=>∀n h',h n=none->h'=bU h n (.map #[] 0)->k (.v (.map (some n))) L h'
  |some _=>False
 | .call { callee:=.value f,args, .. }=>match ρ f with
  | .v (.func (.func g) first cap)=>match bl (args.toList.map ρ)with
   |some as=>match T.fn g with
    |true=>match T.kZm g with
     |true=>Rr p g (first.toList++as++cap.toList) h (fun r h'=>k (.v r) L h') (fun c h'=>T.kp c (T.rs.map fun t=>ρ (.tmp t)) h')
     |false=>aQI p g (first.toList++as++cap.toList) h (fun r h'=>k (.v r) L h')
    |false=>fW p (fun _=>Iu g (first.toList++as++cap.toList)) h (fun r h'=>k (.v r) L h')
   |none=>False
  | .v (.func (.yield l) first _)=>match bl (args.toList.map ρ)with
   |some as=>cZH p l (first.toList++as) h (fun r h'=>k (.v r) L h')
   |none=>False
  |_=>False
 | .call { callee:=.builtin b,args,argTypes }=>match b with
  | .append=>match argTypes[0]?,argTypes[1]? with
   |some t,some u=>match (T.ty t).kd with
    | .uD e=>match (T.ty e).kd.isNone with
     |true=>False
     |false=>match (T.ty e).zero.length==(T.ty e).size with
      |false=>False
      |true=>match bl (args.toList.map ρ)with
       |some [.slice b len cap,.slice x n _]=>match (T.ty u).kd with
        | .uD _=>iU h b len cap x n (T.ty e).size (T.ty e).bytes e (fun v h'=>k (.v v) L h')
        |_=>False
       |some [.slice b len cap,.int _ n]=>match (T.ty u).kd with
        | .int _=>wI (fun _=>0<=n/\n<=2^48/\n*(T.ty e).bytes<=2^48) (fun _=>dQC h b len cap (A.su n 0) (T.ty e).size (T.ty e).bytes e (T.ty e).zero (fun v h'=>k (.v v) L h'))
        |_=>False
       |_=>False
    |_=>False
   |_,_=>False
  | .copy=>match argTypes[0]? with
   |some t=>match (T.ty t).kd with
    | .uD e=>match (T.ty e).kd.isNone with
     |true=>False
     |false=>match bl (args.toList.map ρ)with
      |some [.slice b len _,.slice x n _]=>Ja h b len x n (T.ty e).size (fun v h'=>k (.v v) L h')
      |_=>False
    |_=>False
   |none=>False
  | .clear=>match argTypes[0]? with
   |some t=>match (T.ty t).kd with
    | .uD e=>match (T.ty e).kd.isNone with
     |true=>False
     |false=>match (T.ty e).zero.length==(T.ty e).size with
      |false=>False
      |true=>match bl (args.toList.map ρ)with
       |some [.slice b len _]=>Bo h b len (T.ty e).zero (fun h'=>k (.v (.tuple #[])) L h')
       |_=>False
    |_=>False
   |none=>False
  | .delete=>match bl (args.toList.map ρ)with
   |some as=>fW p (fun _=>Builtin.delete_ argTypes o.type as.toArray) h (fun r h'=>k (.v r) L h')
   |none=>False
  |_=>False
 | .convert src dst x=>match ρ x with
  | .v a=>fW p (fun _=>Go.convert src dst a) h (fun r h'=>k (.v r) L h')
  |_=>False
 | .lookup t x i ok=>match ρ x with
  | .v a=>match ρ i with
   | .v b=>fW p (fun _=>Instr.lookup t a b ok) h (fun r h'=>k (.v r) L h')
   |_=>False
  |_=>False
 | .mapUpdate t m i x=>match ρ m with
  | .v a=>match ρ i with
   | .v b=>match ρ x with
    | .v c=>fW p (fun _=>do Instr.mapUpdate t a b c;pure undef) h (fun _ h'=>k (.v undef) L h')
    |_=>False
   |_=>False
  |_=>False
 | .mapEntry t m i=>match ρ m with
  | .v a=>match ρ i with
   | .v b=>fW p (fun _=>Instr.mapEntry t a b) h (fun r h'=>k (.v r) L h')
   |_=>False
  |_=>False
 | .entryStore t m i x=>match ρ m with
  | .v a=>match ρ i with
   | .v b=>match ρ x with
    | .v c=>fW p (fun _=>do Instr.entryStore t a b c;pure undef) h (fun _ h'=>k (.v undef) L h')
    |_=>False
   |_=>False
  |_=>False
 | .range t x=>match ρ x with
  | .v a=>fW p (fun _=>Instr.range t a) h (fun r h'=>k (.v r) L h')
  |_=>False
 | .next it str=>match ρ it with
  | .v a=>fW p (fun _=>Instr.next a str o.type) h (fun r h'=>k (.v r) L h')
  |_=>False
 | .entry it=>match ρ it with
  | .v a=>fW p (fun _=>Instr.entry a) h (fun r h'=>k (.v r) L h')
  |_=>False
 | .insert t m i x=>match ρ m with
  | .v a=>match ρ i with
   | .v b=>match ρ x with
    | .v c=>fW p (fun _=>do Instr.mapUpdate t a b c;pure undef) h (fun _ h'=>k (.v undef) L h')
    |_=>False
   |_=>False
  |_=>False
 | .panic x=>match ρ x with
  | .v (.iface t v)=>T.kp [{ v:=.iface t v,recovered:=false }] (T.rs.map fun t=>ρ (.tmp t)) h
  |_=>False
 |_=>False
def put(env:Env)(d:Option Nat)(x:SV):Env:=
 match d with
 |some t=>env.set t x
 |none=>env
def vT(L:Loc)(d:Option Nat)(nb:Option (List Value)):Loc:=
 match d,nb with
 |some t,some c=>(t,c)::L
 |_,_=>L
def gd(ops:List Oper)(env:Env)(o:Oper)(yes no:Unit->Prop):Prop:=
 match o.guard with
 |none=>yes ()
 |some (j,want)=>match ops[j]? with
  |some oj=>match oj.dst with
   |some d=>match env.getD d .u with
    | .v (.bool b)=>match want with
     |true=>ZR b yes no
     |false=>ZR b no yes
    | .v (.tuple _)=>no ()
    |_=>False
   |none=>no ()
  |none=>no ()
def JW(A:Ar)(T:bu)(p:Unit->Program)(all:List Oper)(K:Env->Loc->ad->Prop):List Oper->Env->Loc->ad->Prop
 | [],env,L,h=>K env L h
 |o::rest,env,L,h=>
  gd all env o
   (fun _=>match nN T o with
    |true=>kG A T p o (rq env) L h (fun x nb=>JW A T p all K rest (put env o.dst x) (vT L o.dst nb) h)
    |false=>hx A T p o (rq env) L h (fun x L' h'=>JW A T p all K rest (put env o.dst x) L' h'))
   (fun _=>JW A T p all K rest (put env o.dst (.v undef)) L h)
def Kj(T:bu)(strict:Bool)(h:ad)(L:Loc)(env:Env)(o:Oper)(rest:Unit->Prop):Prop:=
 match o.op with
 | .load t a=>match rq env a with
  | .v (.pointer (some x))=>Bn h x (T.ty t).size (fun cs=>uF (T.ty t).agg cs (fun x=>wI (fun _=>∃d,o.dst=some d/\env[d]? =some (.v x)) rest))
  | .loc s off=>match strict with
   |false=>rest ()
   |true=>match mM L s with
    |some c=>match takeN c off (T.ty t).size with
     |some cs=>uF (T.ty t).agg cs (fun x=>wI (fun _=>∃d,o.dst=some d/\env[d]? =some (.v x)) rest)
     |none=>False
    |none=>False
  |_=>False
 |_=>rest ()
def pins(T:bu)(strict:Bool)(all:List Oper)(h:ad)(L:Loc)(env:Env):List Nat->(Unit->Prop)->Prop
 | [],k=>k ()
 |i::r,k=>match all[i]? with
  |some o=>gd all env o (fun _=>Kj T strict h L env o (fun _=>pins T strict all h L env r k)) (fun _=>pins T strict all h L env r k)
  |none=>False
def iu(o:Oper):Bool:=match o.op with
 | .store .. =>true
 |_=>false
def lL(A:Ar)(T:bu)(p:Unit->Program)(all:List Oper)(K:Env->Loc->ad->Prop):zX->Env->Loc->ad->Prop
 | .done,env,L,h=>K env L h
 | .aa i rest,env,L,h=>match all[i]? with
  |some o=>gd all env o
   (fun _=>kG A T p o (rq env) L h (fun x nb=>lL A T p all K rest (put env o.dst x) (vT L o.dst nb) h))
   (fun _=>lL A T p all K rest (put env o.dst (.v undef)) L h)
  |none=>False
 | .av i pn rest,env,L,h=>match all[i]? with
  |some o=>gd all env o
   (fun _=>hx A T p o (rq env) L h (fun x L' h'=>pins T (iu o) all h' L' (put env o.dst x) pn (fun _=>lL A T p all K rest (put env o.dst x) L' h')))
   (fun _=>lL A T p all K rest (put env o.dst (.v undef)) L h)
  |none=>False
 | .fork l r,env,L,h=>lL A T p all K l env L h/\lL A T p all K r env L h
inductive Ex where
 |normal
 |exit (id:Nat)
 |ret
def wk:Env->Env->Prop
 | [],[]=>True
 |x::r,y::q=>match y with
  | .u=>wk r q
  | .v b=>x=.v b/\wk r q
  | .loc s o=>x=.loc s o/\wk r q
 |_,_=>False
def bKK(L:Loc):Loc->Prop
 | []=>True
 | (s,c)::r=>mM L s=some c/\bKK L r
def fQp(L:Loc):Env->Prop
 | []=>True
 |x::r=>match x with
  | .loc s _=>(mM L s).isSome=true/\fQp L r
  |_=>fQp L r
structure Wk(env:Env)(L:Loc)(kU:Env)(L1:Loc):Prop where
 env:wk env kU
 loc:bKK L L1
 ok:fQp L1 kU
def aQL:List Oper->List Nat
 | []=>[]
 |o::r=>match o.dst with
  |some d=>d::aQL r
  |none=>aQL r
def wr:Code->List Nat
 | .region _ ops _=>aQL ops.toList
 | .seq a b| .cond _ a b=>wr a++wr b
 | .block _ c| .loop c=>wr c
 |_=>[]
structure aX(ws:List Nat)(body:(Ex->Env->Loc->ad->Prop)->Env->Loc->ad->Prop)(K:Ex->Env->Loc->ad->Prop)(env:Env)(L:Loc)(h:ad):Prop where
 out:∃(I:Nat->Env->Loc->ad->Prop) (n:Nat),(∃kU L1,Wk env L kU L1/\I n kU L1 h)/\
  ∀n env L h,I n env L h->body (fun e dh L' h'=>match e with
   | .normal=>∃m kU L1,m<n/\Wk dh L' kU L1/\I m kU L1 h'
   |e=>K e dh L' h') env L h
def sx(A:Ar)(T:bu)(p:Unit->Program):Code->(Ex->Env->Loc->ad->Prop)->Env->Loc->ad->Prop
 | .skip,K,env,L,h=>K .normal env L h
 | .region id ops draw,K,env,L,h=>match draw with
  |false=>JW A T p ops.toList (fun env L h=>K .normal env L h) ops.toList env L h
  |true=>lL A T p ops.toList (fun env L h=>K .normal env L h) (T.aK id) env L h
 | .seq a b,K,env,L,h=>sx A T p a (fun e env L h=>match e with
  | .normal=>sx A T p b K env L h
  |e=>K e env L h) env L h
 | .cond c a b,K,env,L,h=>match rq env c with
  | .v (.bool t)=>ZR t (fun _=>sx A T p a K env L h) (fun _=>sx A T p b K env L h)
  |_=>False
 | .block id c,K,env,L,h=>sx A T p c (fun e env L h=>match e with
  | .exit j=>if j=id then K .normal env L h else K (.exit j) env L h
  |e=>K e env L h) env L h
 | .loop c,K,env,L,h=>aX (wr c) (fun K' env L h=>sx A T p c K' env L h) K env L h
 | .exit id,K,env,L,h=>K (.exit id) env L h
 | .ret,K,env,L,h=>K .ret env L h
 |_,_,_,_,_=>False
def bKm(T:bu)(env:Env)(L:Loc)(h:ad):ResultVar->(Value->Prop)->Prop
 | .tmp t,k=>match env.getD t .u with
  | .v x=>k x
  |_=>False
 | .cell a t,k=>match (T.ty t).kd,env.getD a .u with
  | .none,_=>False
  |_,.loc s off=>match mM L s with
   |some c=>match takeN c off (T.ty t).size with
    |some cs=>uF (T.ty t).agg cs k
    |none=>False
   |none=>False
  |_,.v (.pointer (some x))=>Bn h x (T.ty t).size (fun cs=>uF (T.ty t).agg cs k)
  |_,_=>False
def uE(T:bu)(env:Env)(L:Loc)(h:ad):List ResultVar->(List Value->Prop)->Prop
 | [],k=>k []
 |r::rs,k=>bKm T env L h r (fun x=>uE T env L h rs (fun xs=>k (x::xs)))
def pJ(l:List Value)(k:Value->Prop):Prop:=match l with
 | [x]=>k x
 |l=>k (.tuple l.toArray)
def dXx(A:Ar)(T:bu)(p:Unit->Program)(c:Code)(ntmps:Nat)(rs:List ResultVar)(args:List Value)(h:ad)(R:Value->ad->Prop):Prop:=
 sx A T p c (fun e env L h=>match e with
  | .exit _=>False
  |_=>uE T env L h rs (fun l=>pJ l (fun v=>R v h))) (args.map SV.v++List.replicate (ntmps-args.length) (.v undef)) [] h
variable {P:Program}{T:bu}{A:Ar}[bM A]
structure eXA(w w':World):Prop where
 os:w'.os=w.os
 tape:w'.tape=w.tape
 output:w'.output=w.output
theorem bW.refl{h:ad}{w:World}(ha:Fo h w):bW h w h w:=
 ⟨rfl,rfl,rfl,mQt _,ha,fun _ _ hb=>⟨rfl,hb⟩⟩
theorem bW.trans{h h1 h2:ad}{w w1 w2:World}(a:bW h w h1 w1)(b:bW h1 w1 h2 w2):bW h w h2 w2:=
 ⟨b.os.trans a.os,b.tape.trans a.tape,b.output.trans a.output,mXW a.size b.size,b.IV,fun k hk hn=>
  have x:=a.frame k hk hn;have y:=b.frame k (Nat.lt_of_lt_of_le hk a.size) x.2
  ⟨y.1.trans x.1,y.2⟩⟩
theorem Fo.qQ{h:ad}{w:World}(ha:Fo h w){b:Nat}(hb:w.heap.size<=b):h b=none:=by
 cases hh:h b with
 |none=>rfl
 |some o=>have:=ha b o hh;rw[nQi hb]at this;cases this
theorem Fn.mono{f:FuncId}{args:List Value}{h:ad}{R R':Value->ad->Prop}(x:Fn P f args h R)(hr:∀v h',R v h'->R' v h'):Fn P f args h R':=
 fun w hw=>(x w hw).mono fun e w' ⟨v,h',he,hR,ha⟩=>⟨v,h',he,hr _ _ hR,ha⟩
theorem Rr.mono{p:Unit->Program}{f:FuncId}{args:List Value}{h:ad}{R R':Value->ad->Prop}{K K':List PanicEntry->ad->Prop}(x:Rr p f args h R K)(hr:∀v h',R v h'->R' v h')(hk:∀c h',K c h'->K' c h'):Rr p f args h R' K':=
 ⟨fun w hw=>(x.out w hw).mono fun e w' hq=>by
  rcases hq with ⟨v,h',h1,h2,h3⟩ | ⟨c,h',h1,h2,h3⟩
  ·exact .inl ⟨v,h',h1,hr _ _ h2,h3⟩
  ·exact .inr ⟨c,h',h1,hk _ _ h2,h3⟩⟩
theorem aQI.mono{p:Unit->Program}{f:FuncId}{args:List Value}{h:ad}{R R':Value->ad->Prop}(x:aQI p f args h R)(hr:∀v h',R v h'->R' v h'):aQI p f args h R':=
 ⟨x.out.mono hr⟩
structure Dt(P:Program)(t:TypeId)(i:Ti):Prop where
 ex:∃ti d z,P.info? t=some ti/\P.underlying t=some d/\ti.zero=some z/\
  i.agg=(match d with| .struct _| .array _ _=>true|_=>false)/\i.size=ti.size/\i.bytes=ti.bytes/\i.zero=z.cells.toList/\i.kd=sF d/\i.flat=Ul P t d
theorem jA(hT:gE P T){t:TypeId}(h:(T.ty t).kd≠.none):Dt P t (T.ty t):=by
 rcases hT.ty t with e|e
 ·rw[e]at h |-;unfold dZN at h |-;cases hi:P.info? t with
  |none=>simp[hi,Ti.none]at h
  |some ti=>
   cases hu:P.underlying t with
   |none=>simp[hi,hu,Ti.none]at h
   |some d=>
    cases hz:ti.zero with
    |none=>simp[hi,hu,hz,Ti.none]at h
    |some z=>refine⟨ti,d,z,?_⟩;simp only[hz,hi,hu,true_and];all_goals (cases d<;>simp)
 ·rw[e]at h;exact absurd rfl h
theorem Dt.OK{t:TypeId}{i:Ti}(h:Dt P t i)(w:World):∃ti,(typeInfo t).run P w=.ok ti w/\i.size=ti.size/\i.bytes=ti.bytes:=by obtain⟨ti,d,z,h1,-,-,-,h2,h3,-,-,-⟩:=h.ex;exact⟨ti,by simp[typeInfo,h1],h2,h3⟩
theorem Dt.iI{t:TypeId}{i:Ti}(h:Dt P t i)(w:World):(sizeOf t).run P w=.ok i.size w:=by obtain⟨ti,h1,h2,-⟩:=h.OK w;simp[sizeOf,h1,h2]
theorem Dt.dq{t:TypeId}{i:Ti}(h:Dt P t i)(w:World):∃d,(underlying t).run P w=.ok d w/\P.underlying t=some d/\i.kd=sF d/\
 i.agg=(match d with| .struct _| .array _ _=>true|_=>false):=by
 obtain⟨ti,d,z,-,h1,-,h2,-,-,-,h3,-⟩:=h.ex;exact⟨d,by simp[underlying,h1],h1,h3,h2⟩
theorem Dt.Kh{t:TypeId}{i:Ti}(h:Dt P t i)(w:World):(isAgg t).run P w=.ok i.agg w:=by obtain⟨d,h1,-,-,h2⟩:=h.dq w;unfold isAgg;rw[mQL,h1,h2];cases d<;>rfl
theorem Dt.rG{t:TypeId}{i:Ti}(h:Dt P t i)(w:World):∃z,(zeroValue t).run P w=.ok z w/\z.cells.toList=i.zero:=by obtain⟨ti,d,z,h1,-,h3,-,-,-,h4,-,-⟩:=h.ex;exact⟨z,by simp[zeroValue,typeInfo,h1,h3],h4.symm⟩
theorem dF(b o n:Nat):(⟨b,o,none⟩:Addr).add n=⟨b,o+n,none⟩:=by
 unfold Addr.add;split
 ·rename_i h;simp[h]
 ·rfl
theorem WV{w:World}{b o:Nat}{c:Array Value}{e:TypeId}{fr:Nat×Nat}(h:w.heap[b]? =some (.cells c e fr)):w.cell? ⟨b,o,none⟩=c[o]? :=by simp[World.cell?,h]
theorem tq{t:TypeId}{i:Ti}(hi:Dt P t i)(w:World)(b o:Nat)(cs:List Value)(hl:cs.length=i.size)
 (hc:∀j,j<cs.length->w.cell? ⟨b,o+j,none⟩=cs[j]?) {k:Value->Prop} (hk:uF i.agg cs k):
 ∃v,(loadVar t ⟨b,o,none⟩).run P w=.ok v w/\k v:=by
 unfold loadVar;rw[mQL,hi.Kh];unfold uF at hk;cases ha:i.agg with
 |true=>
  simp only[ha]at hk;refine⟨_,?_,hk⟩;have:=run_loadCells_list (P:=P) w ⟨b,o,none⟩ cs (fun j v hv=>by
   rw[dF,hc j (by rw[HH]at hv;exact hv.1),hv])
  simp[hi.iI,<-hl,this]
 |false=>
  simp only[ha]at hk;cases cs with
  |nil=>exact hk.elim
  |cons x r=>refine⟨x,?_,hk⟩;have:=hc 0 (by simp);simp only[mZT,nQg]at this;simp[this]
theorem Sw.cell{h:ad}{w:World}(ha:Fo h w){a:Addr}{n:Nat}{cs:List Value}(hr:Sw h a n cs):
 a.spot=none/\cs.length=n/\∀j,j<cs.length->w.cell? ⟨a.block,a.off+j,none⟩=cs[j]? :=by
 obtain⟨h1,h2,c,e,fr,h3,h4⟩:=hr;refine⟨h1,h2,fun j hj=>?_⟩;rw[WV (ha _ _ h3)];exact h4 j (h2 ▸ hj)
theorem dZx{v:Value}(h:one v=true)(a:Addr)(m:Mode)(w:World){c:Array Value}{e:TypeId}{fr:Nat×Nat}(hs:a.spot=none)
 (hb:w.heap[a.block]? =some (.cells c e fr)) (ho:a.off<c.size) (hf:¬(fr.1<=a.off/\a.off<fr.2)):
 (store a v m).run P w=.ok () (w.setCell a v):=by
 have hc:w.cell? a=some c[a.off]:=by simp[World.cell?,hb,hs,ho]
 have hz:w.frozen? a=false:=by obtain⟨lo,hi⟩:=fr;simp only[World.frozen?,hb];simp only[nQj,decide_eq_false_iff_not];simp only at hf;omega
 cases v<;>first
  | (simp[one]at h;done)
  | (simp only[store,Sem.run,hc,hz];rfl)
theorem fD(c:List Value)(o:Nat)(vs:List Value):(jS c o vs).length=c.length:=by
 induction vs generalizing c o with
 |nil=>rfl
 |cons v r ih=>simp[jS,ih]
theorem rH{b o:Nat}{e:TypeId}{fr:Nat×Nat}:∀(vs:List Value) (i:Nat) (c:Array Value) (w:World),
 w.heap[b]? =some (.cells c e fr)->o+i+vs.length<=c.size->(∀j,j<vs.length->¬(fr.1<=o+i+j/\o+i+j<fr.2))->oS vs=true->
 ∃w',(storeCells ⟨b,o,none⟩ vs i).run P w=.ok () w'/\w'.heap[b]? =some (.cells (jS c.toList (o+i) vs).toArray e fr)/\
  (∀b',b'≠b->w'.heap[b']? =w.heap[b']?)/\w'.heap.size=w.heap.size/\eXA w w'
 | [],i,c,w,hb,_,_,_=>⟨w,rfl,by simp[jS,hb],fun _ _=>rfl,rfl,rfl,rfl,rfl⟩
 |v::r,i,c,w,hb,hl,hf,h1=>by
  simp only[mQx]at hl hf;have ho:one v=true:=by
   unfold oS at h1;split at h1
   ·assumption
   ·cases h1
  have hr:oS r=true:=by
   unfold oS at h1;split at h1
   ·assumption
   ·cases h1
  have ig:=dZx (P:=P) ho ⟨b,o+i,none⟩ .plain w rfl hb (by show o+i<c.size;omega) (by simpa using hf 0 (by omega));have oz:(w.setCell ⟨b,o+i,none⟩ v).heap[b]? =some (.cells (c.setIfInBounds (o+i) v) e fr):=by simp[World.setCell,mJp,hb]
  obtain⟨w',h2,h3,h4,h5,h6⟩:=rH (o:=o) r (i+1) (c.setIfInBounds (o+i) v) _ oz (by simp;omega)
   (fun j hj=>by have:=hf (j+1) (by omega);rw[show o+(i+1)+j=o+i+(j+1)by omega];exact this) hr
  refine⟨w',?_,?_,?_,?_,?_⟩
  ·unfold storeCells;rw[mQL,dF,ig];exact h2
  ·rw[h3];simp[jS,mKn,mZR]
  ·intro b' ch;rw[h4 b' ch];simp[World.setCell,mJp,Ne.symm ch]
  ·rw[h5];simp[World.setCell]
  ·exact⟨h6.os,h6.tape,h6.output⟩
def vw(β:Nat->Nat)(L:Loc):SV->Value->Prop
 | .v x,y=>y=x
 | .loc s off,y=>(∃c,mM L s=some c)/\y=.pointer (some ⟨β s,off,none⟩)
 | .u,_=>True
structure eO(ds:List Deferred)(h0:ad)(w0:World)(β:Nat->Nat)(env:Env)(L:Loc)(h:ad)(a:Act)(w:World):Prop where
 after:bW h0 w0 h w
 loc:∀s c,mM L s=some c->w0.heap.size<=β s/\h (β s)=none/\∃e,w.heap[β s]? =some (.cells c.toArray e (0,0))
 inj:∀s s' c c',mM L s=some c->mM L s'=some c'->β s=β s'->s=s'
 size:a.tmps.size=env.length
 slot:∀t x,env[t]? =some x->vw β L x (a.tmps.getD t undef)
 defers:a.defers=ds
variable {ds:List Deferred}{h0:ad}{w0:World}{β:Nat->Nat}{env:Env}{L:Loc}{h:ad}{a:Act}{w:World}
theorem getD_some{env:Env}{t:Nat}{x:SV}(h:env.getD t .u=x)(hx:x≠.u):env[t]? =some x:=by
 rw[mXv]at h;cases hh:env[t]? with
 |none=>rw[hh]at h;exact absurd h.symm hx
 |some y=>rw[hh]at h;simp at h;rw[h]
theorem eO.rq(hs:eO ds h0 w0 β env L h a w)(o:Operand):vw β L (rq env o) (a.eval o):=by
 cases o with
 |tmp t=>
  show vw β L (env.getD t .u) _;by_cases hu:env.getD t .u=.u
  ·rw[hu];trivial
  ·exact hs.slot t _ (getD_some rfl hu)
 |const v=>rfl
 |global g=>rfl
 |func f=>rfl
theorem eO.bY(hs:eO ds h0 w0 β env L h a w){o:Operand}{x:Value}(hx:Sx.rq env o=.v x):a.eval o=x:=by have:=hs.rq o;rw[hx]at this;exact this
theorem eO.uV(hs:eO ds h0 w0 β env L h a w){o:Operand}{s off:Nat}(hx:Sx.rq env o=.loc s off):
 (∃c,mM L s=some c)/\a.eval o=.pointer (some ⟨β s,off,none⟩):=by
 have:=hs.rq o;rw[hx]at this;exact this
theorem eO.lt(hs:eO ds h0 w0 β env L h a w){s:Nat}{c:List Value}(hl:mM L s=some c):β s<w.heap.size:=by obtain⟨-,-,e,he⟩:=hs.loc s c hl;exact(mXr.1 he).1
theorem eO.put(hs:eO ds h0 w0 β env L h a w){d:Option Nat}{x:SV}{v:Value}(hv:vw β L x v):eO ds h0 w0 β (put env d x) L h (a.put d v) w:=by
 cases d with
 |none=>exact hs
 |some t=>
  refine⟨hs.after,hs.loc,hs.inj,by simp[Act.put,Sx.put,hs.size],fun u y hu=>?_,hs.defers⟩;simp only[Sx.put,Act.put]at hu |-;rw[mXF]at hu;split at hu
  ·rename_i e;subst e;split at hu
   ·rename_i aP;cases hu;have:t<a.tmps.size:=by rw[hs.size];exact aP
    simpa[mXm,mKb this]using hv
   ·cases hu
  ·rename_i ch;have:=hs.slot u y hu;simpa[mXm,mJZ ch]using this
theorem Ci{s:Nat}{c:List Value}{L:Loc}{t:Nat}:mM ((s,c)::L) t=if s=t then some c else mM L t:=rfl
theorem uT{w:World}{o:Obj}{b:Nat}(hb:b<w.heap.size):(w.heap.push o)[b]? =w.heap[b]? :=by rw[Array.getElem?_push,if_neg (by omega)]
theorem bW.push{h0:ad}{w0:World}{h:ad}{w:World}(x:bW h0 w0 h w)(o:Obj):bW h0 w0 h { w with heap:=w.heap.push o }:=by refine x.trans ⟨rfl,rfl,rfl,by simp,fun b o' hb=>?_,fun b hb hn=>⟨uT hb,hn⟩⟩;have:=x.IV b o' hb;rw[uT ((mXr.1 this).1)];exact this
theorem eO.box(hs:eO ds h0 w0 β env L h a w){d:Nat}(hd:mM L d=none)(c:List Value)(e:TypeId):
 eO ds h0 w0 (fun s=>if s=d then w.heap.size else β s) (Sx.put env (some d) (.loc d 0)) ((d,c)::L) h (a.put (some d) (.pointer (some ⟨w.heap.size,0,none⟩)))
  { w with heap:=w.heap.push (.cells c.toArray e) }:=by
 have base:eO ds h0 w0 (fun s=>if s=d then w.heap.size else β s) env ((d,c)::L) h a { w with heap:=w.heap.push (.cells c.toArray e) }:=by
  refine⟨hs.after.push _,fun s c' hl=>?_,fun s s' c1 c2 hl TI he=>?_,hs.size,fun t x hx=>?_,hs.defers⟩
  ·rw[Ci]at hl;by_cases cKd:s=d
   ·rw[if_pos cKd.symm]at hl;cases hl;simp only[cKd,if_true];exact⟨hs.after.size,hs.after.IV.qQ (mQt _),e,by simp⟩
   ·rw[if_neg (Ne.symm cKd)]at hl;simp only[if_neg cKd];obtain⟨h1,h2,e',h3⟩:=hs.loc s c' hl;exact⟨h1,h2,e',by rw[uT (hs.lt hl)];exact h3⟩
  ·rw[Ci]at hl TI;by_cases h1:s=d<;>by_cases h2:s'=d
   ·rw[h1,h2]
   ·rw[if_neg (Ne.symm h2)]at TI;simp only[h1,if_true,if_neg h2]at he;have:=hs.lt TI;omega
   ·rw[if_neg (Ne.symm h1)]at hl;simp only[h2,if_true,if_neg h1]at he;have:=hs.lt hl;omega
   ·rw[if_neg (Ne.symm h1)]at hl;rw[if_neg (Ne.symm h2)]at TI;simp only[if_neg h1,if_neg h2]at he;exact hs.inj _ _ _ _ hl TI he
  ·have:=hs.slot t x hx;cases x with
   |v y=>exact this
   |u=>trivial
   |loc s off=>
    obtain⟨⟨c',wG⟩,hv⟩:=this;have ch:s≠d:=fun e=>by rw[e,hd]at wG;cases wG
    refine⟨⟨c',by rw[Ci,if_neg (Ne.symm ch)];exact wG⟩,?_⟩;simp only[if_neg ch];exact hv
 refine base.put ?_;refine⟨⟨c,by rw[Ci,if_pos rfl]⟩,by simp⟩
theorem tz{L:Loc}{s:Nat}{c d:List Value}(hl:mM L s=some c)(t:Nat):mM (Bz L s d) t=if s=t then some d else mM L t:=by
 induction L with
 |nil=>cases hl
 |cons x r ih=>
  obtain⟨k,y⟩:=x;by_cases hk:k=s
  ·subst hk;simp only[Bz,if_true,mM];by_cases ht:k=t<;>simp[ht]
  ·simp only[mM,if_neg hk]at hl;simp only[Bz,if_neg hk,mM,ih hl];by_cases ht:k=t
   ·subst ht;simp[Ne.symm hk]
   ·simp[ht]
theorem eO.dXB(hs:eO ds h0 w0 β env L h a w){s:Nat}{c c':List Value}(hl:mM L s=some c){w':World}
 (hb:∀e,w.heap[β s]? =some (.cells c.toArray e (0,0))->w'.heap[β s]? =some (.cells c'.toArray e (0,0))) (ho:∀b,b≠β s->w'.heap[b]? =w.heap[b]?)
 (hz:w'.heap.size=w.heap.size) (RD:eXA w w'):eO ds h0 w0 β env (Bz L s c') h a w':=by
 obtain⟨g1,g2,e,g3⟩:=hs.loc s c hl;refine⟨⟨RD.os.trans hs.after.os,RD.tape.trans hs.after.tape,RD.output.trans hs.after.output,by rw[hz];exact hs.after.size,fun b o yV=>?_,fun b Ap hn=>?_⟩,
  fun t d hd=>?_,fun t t' c1 c2 h1 h2 he=>?_,hs.size,fun t x hx=>?_,hs.defers⟩
 ·rw[ho b (fun e=>by rw[e,g2]at yV;cases yV)];exact hs.after.IV b o yV
 ·have:=hs.after.frame b Ap hn;exact⟨by rw[ho b (by omega)];exact this.1,this.2⟩
 ·rw[tz hl]at hd;by_cases ig:s=t
  ·subst ig;rw[if_pos rfl]at hd;cases hd;exact⟨g1,g2,e,hb e g3⟩
  ·rw[if_neg ig]at hd;obtain⟨k1,k2,e',k3⟩:=hs.loc t d hd;exact⟨k1,k2,e',by rw[ho _ (fun q=>ig (hs.inj _ _ _ _ hl hd q.symm))];exact k3⟩
 ·have q:∀t c,mM (Bz L s c') t=some c->∃c,mM L t=some c:=fun t c hq=>by
   rw[tz hl]at hq;by_cases ig:s=t
   ·subst ig;exact⟨_,hl⟩
   ·rw[if_neg ig]at hq;exact⟨_,hq⟩
  obtain⟨_,q1⟩:=q _ _ h1;obtain⟨_,q2⟩:=q _ _ h2;exact hs.inj _ _ _ _ q1 q2 he
 ·have:=hs.slot t x hx;cases x with
  |v y=>exact this
  |u=>trivial
  |loc k off=>
   obtain⟨⟨d,hd⟩,hv⟩:=this;refine⟨?_,hv⟩;rw[tz hl];by_cases ig:s=k
   ·exact⟨c',by rw[if_pos ig]⟩
   ·exact⟨d,by rw[if_neg ig];exact hd⟩
theorem eO.step(hs:eO ds h0 w0 β env L h a w){h':ad}{w':World}(ha:bW h w h' w'):eO ds h0 w0 β env L h' a w':=
 ⟨hs.after.trans ha,fun s c hl=>by
  obtain⟨g1,g2,e,g3⟩:=hs.loc s c hl;have:=ha.frame (β s) (hs.lt hl) g2;exact⟨g1,this.2,e,by rw[this.1];exact g3⟩,hs.inj,hs.size,hs.slot,hs.defers⟩
theorem bW.new{h:ad}{w:World}(ha:Fo h w)(o:Obj):bW h w (bU h w.heap.size o) { w with heap:=w.heap.push o }:=by
 refine⟨rfl,rfl,rfl,by simp,fun b o' hb=>?_,fun b hb hn=>⟨uT hb,?_⟩⟩
 ·simp only[bU]at hb;split at hb
  ·rename_i e;subst e;cases hb;simp
  ·have:=ha b o' hb;show(w.heap.push o)[b]? =_;rw[uT ((mXr.1 this).1)];exact this
 ·simp only[bU];rw[if_neg (by omega)];exact hn
theorem bW.set{h:ad}{w w':World}(ha:Fo h w){n:Nat}{o o':Obj}(hn:h n=some o)(h1:w'.heap[n]? =some o')(h2:∀b,b≠n->w'.heap[b]? =w.heap[b]?)
 (h3:w'.heap.size=w.heap.size) (h4:eXA w w'):bW h w (bU h n o') w':=by
 refine⟨h4.os,h4.tape,h4.output,by omega,fun b q hb=>?_,fun b hb hh=>?_⟩
 ·simp only[bU]at hb;split at hb
  ·rename_i e;subst e;cases hb;exact h1
  ·rename_i e;rw[h2 b e];exact ha b q hb
 ·have:b≠n:=fun e=>by rw[e,hn]at hh;cases hh
  exact⟨h2 b this,by simp only[bU];rw[if_neg this];exact hh⟩
variable {P:Program}{T:bu}{A:Ar}[bM A]
theorem pq{t:Bool}{x y:Unit->Prop}(h:ZR t x y):(t=true/\x ())\/(t=false/\y ()):=by
 cases t
 ·exact .inr ⟨rfl,h⟩
 ·exact .inl ⟨rfl,h⟩
theorem nD{g:Bool}{cs:List Value}{k:Value->Prop}(h:uF g cs k):∃v,uF g cs (fun x=>x=v)/\k v:=by
 cases g with
 |true=>exact⟨_,rfl,h⟩
 |false=>
  cases cs with
  |nil=>exact h.elim
  |cons x r=>exact⟨x,rfl,h⟩
theorem oN{g:Bool}{cs:List Value}{k k':Value->Prop}(h:uF g cs k)(hk:∀v,k v->k' v):uF g cs k':=by
 obtain⟨v,h1,h2⟩:=nD h;cases g with
 |true=>exact hk _ h
 |false=>
  cases cs with
  |nil=>exact h.elim
  |cons x r=>exact hk _ h
theorem AK{b:Option Addr}{len cap size:Nat}{l hh m:Option Int}{k:Value->Prop}(hk:GV A b len cap size l hh m k):
 ∃v,k v/\∀k':Value->Prop,k' v->GV A b len cap size l hh m k':=by
 cases m<;>cases hh<;>cases l<;>first
  |exact hk.elim
  |exact⟨_,hk,fun _ h=>h⟩
  |exact⟨_,hk.out,fun _ h=>⟨hk.h,h⟩⟩
theorem AM{s:ByteArray}{l hh:Option Int}{k:Value->Prop}(hk:GW A s l hh k):
 ∃v,k v/\∀k':Value->Prop,k' v->GW A s l hh k':=by
 cases hh<;>cases l<;>first
  |exact⟨_,hk,fun _ h=>h⟩
  |exact⟨_,hk.out,fun _ h=>⟨hk.h,h⟩⟩
theorem IM{op:BinOp}{a b:Value}{e:(Value->Prop)->Unit->Prop}(he:∀k,e k ()->∃v,k v/\∀k':Value->Prop,k' v->e k' ()){k:Value->Prop}(hk:QZ A op a b k (e k)):
 ∃v,k v/\∀k':Value->Prop,k' v->QZ A op a b k' (e k'):=by
 unfold QZ at hk |-;repeat' split at hk
 all_goals first
  |exact he _ hk
  |exact⟨_,hk.out,fun _ h=>⟨hk.h,h⟩⟩
set_option maxHeartbeats 1000000 in
theorem vH{p:Unit->Program}{o:Oper}{ρ:Operand->SV}{L:Loc}{h:ad}{k:SV->Option (List Value)->Prop}(hk:kG A T p o ρ L h k):
 ∃sv nb,k sv nb/\∀k':SV->Option (List Value)->Prop,k' sv nb->kG A T p o ρ L h k':=by
 unfold kG at hk |-;repeat' split at hk
 all_goals first
  |exact hk.elim
  |exact⟨_,_,hk,fun k' h'=>h'⟩
  | (obtain⟨cs,h1,h2⟩:=(show Bn _ _ _ _ from hk).out
     obtain⟨v,h3,h4⟩:=nD h2;exact⟨_,_,h4,fun k' h'=>⟨cs,h1,oN h3 (fun v hv=>by subst hv;exact h')⟩⟩)
  | (obtain⟨v,h3,h4⟩:=nD hk
     exact⟨_,_,h4,fun k' h'=>oN h3 (fun v hv=>by subst hv;exact h')⟩)
  | (obtain⟨v,h1,h2⟩:=(show EG _ _ _ from hk).out
     exact⟨_,_,h2,fun k' h'=>⟨v,h1,h'⟩⟩)
  | (obtain⟨h1,h2⟩:=(show wI _ _ from hk)
     exact⟨_,_,h2,fun k' h'=>⟨h1,h'⟩⟩)
  | (obtain⟨v,h1,h2⟩:=IM (e:=fun k _=>EG p _ k) (fun k h=>by
      obtain⟨v,g1,g2⟩:=h.out;exact⟨v,g2,fun k' h'=>⟨v,g1,h'⟩⟩) hk
     exact⟨_,_,h1,fun k' h'=>h2 (fun v=>k' (.v v) none) h'⟩)
  | (obtain⟨v,h1,h2⟩:=AK hk
     exact⟨_,_,h1,fun k' h'=>h2 _ h'⟩)
  | (obtain⟨v,h1,h2⟩:=AM hk
     exact⟨_,_,h1,fun k' h'=>h2 _ h'⟩)
  |skip
variable {P:Program}{T:bu}{A:Ar}[bM A]
variable {ds:List Deferred}{h0:ad}{w0:World}{β:Nat->Nat}{env:Env}{L:Loc}{h:ad}{a:Act}{w:World}
theorem JP(hs:eO ds h0 w0 β env L h a w):∀ {l:List Operand} {vs:List Value},bl (l.map (rq env))=some vs->l.map a.eval=vs
 | [],vs,hv=>by simp[bl]at hv;simp[hv]
 |x::r,vs,hv=>by
  simp only[mZr]at hv;cases hx:rq env x with
  |v y=>
   rw[hx]at hv;simp only[bl]at hv;cases hr:bl (r.map (rq env))with
   |none=>rw[hr]at hv;cases hv
   |some l=>rw[hr]at hv;simp at hv;rw[<-hv,mZr,hs.bY hx,JP hs hr]
  |loc s o=>rw[hx]at hv;simp[bl]at hv
  |u=>rw[hx]at hv;simp[bl]at hv
theorem ld(hs:eO ds h0 w0 β env L h a w){l:Array Operand}{vs:List Value}(hv:bl (l.toList.map (rq env))=some vs):l.map a.eval=vs.toArray:=by rw[<-JP hs hv];apply Array.ext';simp
theorem xG(hs:eO ds h0 w0 β env L h a w):∀ {l:List (Nat×Operand)} {vs:List (Nat×Value)},pY (rq env) l=some vs->l.map (fun(i,x)=>(i,a.eval x))=vs
 | [],vs,hv=>by simp[pY]at hv;simp[hv]
 | (i,x)::r,vs,hv=>by
  unfold pY at hv;split at hv
  ·rename_i y l hx hr;cases hv;simp only[mZr];rw[hs.bY hx,xG hs hr]
  ·cases hv
theorem Hb(off:Nat):∀(vs:List Value) (k:Nat) (cells:Array Value),
 (vs.zipIdx k).foldl (fun cs (c,j)=>cs.setIfInBounds (off+j) c) cells=(jS cells.toList (off+k) vs).toArray
 | [],k,cells=>by simp[jS]
 |v::r,k,cells=>by
  simp only[mKC,mJP];rw[Hb off r (k+1)];simp[jS,mKn,mZR]
theorem fill_eq(place:Nat->Option (Nat×Nat)):∀(ps:List (Nat×Value)) (cells:Array Value) (cs:List Value),Ir place cells.toList ps=some cs->Instr.fill place cells ps=some cs.toArray
 | [],cells,cs,hf=>by
  simp[Ir]at hf;simp[Instr.fill,<-hf]
 | (i,v)::r,cells,cs,hf=>by
  unfold Ir at hf;unfold Instr.fill;cases hp:place i with
  |none=>simp[hp]at hf
  |some x=>
   obtain⟨off,size⟩:=x;simp only[hp]at hf |-;have hlen:v.cells.toList.length=v.cells.size:=by simp
   have iXa:cells.toList.length=cells.size:=by simp
   rw[hlen,iXa]at hf;split at hf
   ·cases hf
   ·rename_i hc;rw[if_neg hc];have:=fill_eq place r (jS cells.toList off v.cells.toList).toArray cs (by simpa using hf);rw[<-this];congr 1;rw[<-mKB];have e:=Hb off v.cells.toList 0 cells;simp only[mZT]at e;rw[<-e];congr 1;simp[Array.toList_zipIdx]
theorem jj{k:Kd}(h:k.isNone=false):k≠.none:=fun e=>by rw[e]at h;cases h
theorem Ht(hT:gE P T)(w:World):∀(fs:List Field) (l:List (Nat×Nat)),placesOf T (fs.map fun f=>(f.type,f.offset))=some l->
 (fs.mapM fun f=>do pure (f.offset,<-sizeOf f.type):Sem (List (Nat×Nat))).run P w=.ok l w
 | [],l,hp=>by simp[placesOf]at hp;simp[hp]
 |f::r,l,hp=>by
  simp only[mZr]at hp;unfold placesOf at hp;split at hp
  ·rename_i l' hk hr;cases hp;have hi:=jA hT (jj hk);have ih:=Ht hT w r l' hr;rw[mKA];simp only[mQL,hi.iI,mQH,mQV,ih]
  ·cases hp
theorem vI{fs:List (Nat×Nat)}{k:Kd}(h:k=.fw fs):k≠.none:=by rw[h];simp
theorem Tb{n e:Nat}{k:Kd}(h:k=.arr n e):k≠.none:=by rw[h];simp
theorem iL{e:Nat}{k:Kd}(h:k=.uD e):k≠.none:=by rw[h];simp
theorem Cj{d:TypeDesc}{fs:List (Nat×Nat)}(h:sF d=.fw fs):∃F,d=.struct F/\fs=F.toList.map fun f=>(f.type,f.offset):=by cases d<;>simp[sF]at h;exact⟨_,rfl,h.symm⟩
theorem aJG{d:TypeDesc}{n e:Nat}(h:sF d=.arr n e):d=.array n e:=by cases d<;>simp[sF]at h;rw[h.1,h.2]
theorem rN{d:TypeDesc}{e:Nat}(h:sF d=.uD e):d=.slice e:=by cases d<;>simp[sF]at h;rw[h]
theorem SY{d:TypeDesc}(h:sF d=.str):d=.string:=by cases d<;>simp[sF]at h;rfl
theorem run_build(hT:gE P T)(w:World){t:TypeId}{ps:List (Nat×Value)}{cs:List Value}(hk:(T.ty t).kd.isNone=false)
 (hb:UA T (T.ty t).zero ps (T.ty t).kd=some cs):(Instr.build t ps.toArray).run P w=.ok (.agg cs.toArray) w:=by
 have hi:=jA hT (jj hk);obtain⟨z,hz,Co⟩:=hi.rG w;obtain⟨d,hd,-,kC,-⟩:=hi.dq w;unfold Instr.build;simp only[mQL,hz,mQH,hd];unfold UA at hb;split at hb
 ·rename_i fs Ao;split at hb
  ·rename_i l hl;obtain⟨F,rfl,hF⟩:=Cj (kC ▸ Ao);have hp:=Ht hT w F.toList l (hF ▸ hl);have cQB:(F.mapM fun f=>do pure (f.offset,<-sizeOf f.type):Sem (Array (Nat×Nat))).run P w=.ok l.toArray w:=by rw[mJv];simp only[mJu,hp,mQH]
   simp only[cQB,mQH,mQL];have:=fill_eq (fun i=>l[i]?) ps z.cells cs (by rw[Co];exact hb);simp only[nQh];rw[this];rfl
  ·cases hb
 ·rename_i n e ch;split at hb
  ·rename_i aKF;have lW:=jA hT (jj aKF);obtain rfl:=aJG (kC ▸ ch);simp only[mQL,lW.iI,mQH];have:=fill_eq (fun i=>some (i*(T.ty e).size,(T.ty e).size)) ps z.cells cs (by rw[Co];exact hb);rw[this];rfl
  ·cases hb
 ·cases hb
theorem GJ{c cs:List Value}{off n:Nat}(h:takeN c off n=some cs):cs.length=n/\∀j,j<cs.length->c[off+j]? =cs[j]? :=by
 unfold takeN at h;split at h
 ·rename_i hl;cases h;have:((c.drop off).take n).length=n:=by simp;omega
  refine⟨this,fun j hj=>?_⟩;rw[mXa,if_pos (by omega),mXi]
 ·cases h
variable {P:Program}{T:bu}{A:Ar}[bM A]
variable {ds:List Deferred}{h0:ad}{w0:World}{β:Nat->Nat}{env:Env}{L:Loc}{h:ad}{a:Act}{w:World}
theorem iB{x:Int}{y:Nat}{code:BoundsCode}{k:IntKind}(h:0<=x/\x<=(y:Int))(w:World):(Instr.sliceBound (.int k x) y code).run P w=.ok x.toNat w:=by simp[Instr.sliceBound,asIntOf,h]
theorem GU(hs:eO ds h0 w0 β env L h a w){x:Option Operand}{l:Option Int}(hl:bJV (rq env) x=some l):
 (l=none/\x.map a.eval=none)\/(∃n k,l=some n/\x.map a.eval=some (.int k n)):=by
 cases x with
 |none=>simp[bJV]at hl;exact .inl ⟨hl.symm,rfl⟩
 |some y=>
  unfold bJV at hl;simp only at hl;split at hl
  ·rename_i k n he;cases hl;exact .inr ⟨n,k,rfl,by simp[hs.bY he]⟩
  ·cases hl
theorem Sm{b:Option Addr}{len cap size:Nat}{l hh m:Option Int}{r:Value}{lo hi mx:Option Value}
 (h1:(l=none/\lo=none)\/(∃n k,l=some n/\lo=some (.int k n)))
 (h2:(hh=none/\hi=none)\/(∃n k,hh=some n/\hi=some (.int k n)))
 (h3:(m=none/\mx=none)\/(∃n k,m=some n/\mx=some (.int k n)))
 (hk:GV A b len cap size l hh m (fun x=>x=r)) (w:World):
 ∃L H M:Nat,(Instr.sliceBounds true len cap lo hi mx).run P w=.ok (L,H,M) w/\
  r=.slice (if M=L then b else b.map (·.add (L*size))) (H-L) (M-L):=by
 rcases h1 with ⟨rfl,rfl⟩ | ⟨n1,k1,rfl,rfl⟩<;>rcases h2 with ⟨rfl,rfl⟩ | ⟨n2,k2,rfl,rfl⟩<;>rcases h3 with ⟨rfl,rfl⟩ | ⟨n3,k3,rfl,rfl⟩
 ·refine⟨0,len,cap,by simp[Instr.sliceBounds],?_⟩;have:Value.slice b len cap=r:=hk;rw[<-this];simp[Addr.add]
 ·exact hk.elim
 ·obtain⟨c,hk⟩:=(show wI _ _ from hk);refine⟨0,n2.toNat,cap,by simp[Instr.sliceBounds,iB c],?_⟩;have:=hk;simp only[A.Iz,A.nat_eq,A.Ey]at this;rw[<-this];simp
 ·obtain⟨c,hk⟩:=(show wI _ _ from hk);refine⟨0,n2.toNat,n3.toNat,?_,?_⟩
  ·have c1:0<=n3/\n3<=(cap:Int):=⟨c.1,c.2.1⟩;have c2:0<=n2/\n2<=(n3.toNat:Int):=⟨c.2.2.1,by omega⟩;simp[Instr.sliceBounds,iB c1,iB c2]
  ·have:=hk;simp only[A.Iz,A.nat_eq,A.Ey]at this;rw[<-this];have:(n3=0)↔(n3.toNat=0):=by omega
   simp[this]
 ·obtain⟨c,hk⟩:=(show wI _ _ from hk);refine⟨n1.toNat,len,cap,by simp[Instr.sliceBounds,iB c],?_⟩;have:=hk;simp only[A.Iz,A.nat_eq,A.Ey]at this;rw[<-this];have e:(Int.ofNat cap=n1)↔(cap=n1.toNat):=by have:=c.1;simp;omega
  simp only[e];congr 1<;>(try simp)<;>omega
 ·exact hk.elim
 ·obtain⟨c,hk⟩:=(show wI _ _ from hk);refine⟨n1.toNat,n2.toNat,cap,?_,?_⟩
  ·have c1:0<=n2/\n2<=(cap:Int):=⟨c.1,c.2.1⟩;have c2:0<=n1/\n1<=(n2.toNat:Int):=⟨c.2.2.1,by omega⟩;simp[Instr.sliceBounds,iB c1,iB c2]
  ·have:=hk;simp only[A.Iz,A.nat_eq,A.Ey]at this;rw[<-this];have e:(Int.ofNat cap=n1)↔(cap=n1.toNat):=by have:=c.2.2.1;simp;omega
   simp only[e];congr 1<;>(try simp)<;>omega
 ·obtain⟨c,hk⟩:=(show wI _ _ from hk);refine⟨n1.toNat,n2.toNat,n3.toNat,?_,?_⟩
  ·have c1:0<=n3/\n3<=(cap:Int):=⟨c.1,c.2.1⟩;have c2:0<=n2/\n2<=(n3.toNat:Int):=⟨c.2.2.1,by omega⟩;have c3:0<=n1/\n1<=(n2.toNat:Int):=⟨c.2.2.2.2.1,by omega⟩;simp[Instr.sliceBounds,iB c1,iB c2,iB c3]
  ·have:=hk;simp only[A.Iz,A.nat_eq,A.Ey]at this;rw[<-this];have e:(n3=n1)↔(n3.toNat=n1.toNat):=by omega
   simp only[e];congr 1<;>omega
theorem Sn{s:ByteArray}{l hh:Option Int}{r:Value}{lo hi:Option Value}
 (h1:(l=none/\lo=none)\/(∃n k,l=some n/\lo=some (.int k n)))
 (h2:(hh=none/\hi=none)\/(∃n k,hh=some n/\hi=some (.int k n)))
 (hk:GW A s l hh (fun x=>x=r)) (w:World):
 ∃L H M:Nat,(Instr.sliceBounds false s.size s.size lo hi none).run P w=.ok (L,H,M) w/\r=.string (s.extract L H):=by
 rcases h1 with ⟨rfl,rfl⟩ | ⟨n1,k1,rfl,rfl⟩<;>rcases h2 with ⟨rfl,rfl⟩ | ⟨n2,k2,rfl,rfl⟩
 ·refine⟨0,s.size,s.size,by simp[Instr.sliceBounds],?_⟩;have:Value.string s=r:=hk;rw[<-this];simp
 ·obtain⟨c,hk⟩:=(show wI _ _ from hk);refine⟨0,n2.toNat,s.size,by simp[Instr.sliceBounds,iB c],?_⟩;have:=hk;simp only[A.sub_eq]at this;rw[<-this];rfl
 ·obtain⟨c,hk⟩:=(show wI _ _ from hk);refine⟨n1.toNat,s.size,s.size,by simp[Instr.sliceBounds,iB c],?_⟩;have:=hk;simp only[A.sub_eq,A.aXQ]at this;rw[<-this];rfl
 ·obtain⟨c,hk⟩:=(show wI _ _ from hk);refine⟨n1.toNat,n2.toNat,s.size,?_,?_⟩
  ·have c1:0<=n2/\n2<=(s.size:Int):=⟨c.1,c.2.1⟩;have c2:0<=n1/\n1<=(n2.toNat:Int):=⟨c.2.2.1,by omega⟩;simp[Instr.sliceBounds,iB c1,iB c2]
  ·have:=hk;simp only[A.sub_eq]at this;rw[<-this]
theorem bXq{op:BinOp}{t:TypeId}{x y:Operand}{u v r:Value}(hb:cZp A op u v=some r)(w:World):
 (do eqGuard op t x y u v;Go.binOp op t u v:Sem Value).run P w=.ok r w:=by
 have hg:(eqGuard op t x y u v).run P w=.ok () w:=by
  unfold cZp at hb;cases u<;>first
   | (simp at hb;done)
   | (cases v<;>first
    | (simp at hb;done)
    | (unfold eqGuard;split<;>rfl))
 rw[mQL,hg,mQH];unfold cZp at hb;split at hb
 ·rename_i k c k' d;split at hb<;>first
   |cases hb
   | (split at hb
      ·rename_i Jz;subst Jz;cases hb;first
        | (simp[Go.binOp,Op.intArith,A.Bm,bB];done)
        | (simp[Go.binOp,Op.intBits,A.Bm,bB];done)
        | (simp[Go.binOp,Op.intCmp,A.aJW,aI];done)
      ·cases hb)
 ·split at hb<;>first
   | (cases hb;rw[A.aZe];rfl)
   | (cases hb;done)
 ·cases hb
theorem bXr{op:BinOp}{t:TypeId}{x y:Operand}{u v r:Value}{cXL:Unit->Prop}(hb:QZ A op u v (fun z=>z=r) cXL)
 (he:cXL ()->∀w,(do eqGuard op t x y u v;Go.binOp op t u v:Sem Value).run P w=.ok r w) (w:World):
 (do eqGuard op t x y u v;Go.binOp op t u v:Sem Value).run P w=.ok r w:=by
 unfold QZ at hb;split at hb
 ·rename_i ka c;split at hb
  ·rename_i kb d;split at hb
   ·split at hb
    ·rename_i hk;have hk:=mQB hk;subst hk;obtain⟨h1,h2⟩:=hb;subst h2;simp[eqGuard,Go.binOp,Op.intDiv,A.Bm,bB,h1]
    ·exact he hb w
   ·split at hb
    ·rename_i hk;have hk:=mQB hk;subst hk;obtain⟨h1,h2⟩:=hb;subst h2;simp[eqGuard,Go.binOp,Op.intDiv,A.Bm,bB,h1]
    ·exact he hb w
   ·obtain⟨h1,h2⟩:=hb;subst h2;have:¬d<0:=by omega
    simp[eqGuard,Go.binOp,Op.shift,A.Bm,bB,this]
   ·obtain⟨h1,h2⟩:=hb;subst h2;have:¬d<0:=by omega
    simp[eqGuard,Go.binOp,Op.shift,A.Bm,bB,this]
   ·exact he hb w
  ·exact he hb w
 ·rename_i c;split at hb
  ·rename_i d;split at hb
   ·obtain⟨h1,h2⟩:=hb;subst h2;have hm:IntKind.i64.max=9223372036854775807:=by decide
    have Zf:(2:Int)^62=4611686018427387904:=by decide
    have:¬(9223372036854775807<(c.size:Int)+(d.size:Int)):=by rw[Zf]at h1;omega
    have Ik:A.cat c d=c++d:=by rw[A.eXd]
    rw[Ik];simp[eqGuard,Go.binOp,Op.stringOp,this]
   ·exact he hb w
  ·exact he hb w
 ·exact he hb w
theorem CU(hT:gE P T)(d:Nat)(xs ys:Array Value)(w:World):∀(fs:List Field) (i:Nat) (t:Bool),
 ((fs.zipIdx i).all fun(f,i)=>f.offset==i&&decide (f.name≠ "_")&&(match P.info? f.type,P.underlying f.type with
   |some i,some .bool|some i,some (.int _) |some i,some .string=>i.size==1
   |_,_=>false))=true->
 mi A T.ty (fs.map fun f=>(f.type,f.offset)) (xs.toList.drop i) (ys.toList.drop i)=some t->(Op.eqFields (d+1) xs ys fs).run P w=.ok t w
 | [],i,t,_,he=>by
  simp only[List.map_nil]at he;cases hx:xs.toList.drop i with
  |cons x r=>rw[hx]at he;simp[mi]at he
  |nil=>
   cases hy:ys.toList.drop i with
   |nil=>rw[hx,hy]at he;simp[mi]at he;subst he;rfl
   |cons y r=>rw[hx,hy]at he;simp[mi]at he
 |f::fs,i,t,aV,he=>by
  simp only[mKC,mXS,mQG,beq_iff_eq,mQD]at aV;obtain⟨⟨⟨zR,Cu⟩,kJB⟩,KI⟩:=aV;simp only[mZr]at he;cases hx:xs.toList.drop i with
  |nil=>rw[hx]at he;simp[mi]at he
  |cons x r=>
   have VY:xs[i]? =some x:=by have:=congrArg (·[0]?) hx;simpa using this
   have hr:xs.toList.drop (i+1)=r:=by have:=congrArg (List.drop 1) hx;simpa[mZn,mKz]using this
   cases hy:ys.toList.drop i with
   |nil=>rw[hx,hy]at he;simp[mi]at he
   |cons y q=>
    have hKZ:ys[i]? =some y:=by have:=congrArg (·[0]?) hy;simpa using this
    have hq:ys.toList.drop (i+1)=q:=by have:=congrArg (List.drop 1) hy;simpa[mZn,mKz]using this
    rw[hx,hy]at he;have ih:=fun t' PI=>CU hT d xs ys w fs (i+1) t' KI (by rw[hr,hq];exact PI);have ch:f.name≠ "_" :=Cu;have aKV:∀k,(T.ty f.type).kd=k->k≠.none->∃dd,P.underlying f.type=some dd/\k=sF dd:=fun k hk MP=>by
     obtain⟨dd,-,h1,h2,-⟩:=(jA hT (t:=f.type) (by rw[hk];exact MP)).dq w;exact⟨dd,h1,by rw[<-hk,h2]⟩
    have fin:∀(dd:TypeDesc) (b:Bool) (t':Bool),P.underlying f.type=some dd->(isAgg f.type).run P w=.ok false w->(Op.equalIn (d+1) f.type x y).run P w=.ok b w->
     mi A T.ty (fs.map fun f=>(f.type,f.offset)) r q=some t'->t=(b&&t')->(Op.eqFields (d+1) xs ys (f::fs)).run P w=.ok t w:=fun dd b t' Wq fZp hb PI ht=>by
     have kJQ:(part f.type xs f.offset).run P w=.ok x w:=by unfold part;rw[mQL,fZp];simp[zR,VY]
     have iQC:(part f.type ys f.offset).run P w=.ok y w:=by unfold part;rw[mQL,fZp];simp[zR,hKZ]
     unfold Op.eqFields;rw[if_pos ch];simp only[mQL,kJQ,iQC,mQH,hb,ht];cases b with
     |false=>rfl
     |true=>simp[ih t' PI]
    unfold mi at he;split at he
    ·rename_i hk;obtain⟨dd,Wq,kC⟩:=aKV _ hk (by simp);obtain⟨k,rfl⟩:∃k,dd=.int k:=by cases dd<;>simp[sF]at kC;exact⟨_,rfl⟩
     split at he
     ·split at he
      ·split at he
       ·rename_i Jz;split at he
        ·rename_i k1 a1 k2 a2 t' PI;cases he;have iXe:=mQB Jz;subst iXe;refine fin _ _ _ Wq ?_ (run_equalIn_int w d _ _ _ _ _ Wq) PI (by rw[A.and_eq,A.aJW];rfl);unfold isAgg;rw[mQL,run_underlying Wq w];rfl
        ·cases he
       ·cases he
      ·cases he
     ·cases he
    ·rename_i hk;obtain⟨dd,Wq,kC⟩:=aKV _ hk (by simp);obtain rfl:dd=.string:=by cases dd<;>simp[sF]at kC;rfl
     split at he
     ·split at he
      ·split at he
       ·rename_i a1 a2 t' PI;cases he;refine fin _ _ _ Wq ?_ (run_equalIn_string w d _ _ _ Wq) PI (by rw[A.and_eq,A.aZe];rfl);unfold isAgg;rw[mQL,run_underlying Wq w];rfl
       ·cases he
      ·cases he
     ·cases he
    ·rename_i hk;obtain⟨dd,Wq,kC⟩:=aKV _ hk (by simp);obtain rfl:dd=.bool:=by cases dd<;>simp[sF]at kC;rfl
     split at he
     ·split at he
      ·split at he
       ·rename_i a1 a2 t' PI;cases he;refine fin _ _ _ Wq ?_ (run_equalIn_bool' w d _ _ _ Wq) PI (by rw[A.and_eq,A.UB];rfl);unfold isAgg;rw[mQL,run_underlying Wq w];rfl
       ·cases he
      ·cases he
     ·cases he
    ·cases he
theorem Hz{op:BinOp}{b:Bool}{r:Value}(h:neg A op b=some r):(op=.eql/\r=.bool b)\/(op=.neq/\r=.bool (!b)):=by
 unfold neg at h;split at h
 ·cases h;exact .inl ⟨rfl,rfl⟩
 ·cases h;exact .inr ⟨rfl,by rw[A.not_eq]⟩
 ·cases h
theorem bQZ(hT:gE P T){op:BinOp}{t:TypeId}{x y:Operand}{u v r:Value}(hb:eQU A T.ty (T.ty t) op u v=some r)(w:World):
 (do eqGuard op t x y u v;Go.binOp op t u v:Sem Value).run P w=.ok r w:=by
 unfold eQU at hb;split at hb
 ·rename_i e he;have hi:=jA hT (iL he);obtain⟨d,hd,YW,kC,-⟩:=hi.dq w;obtain rfl:=rN (kC ▸ he);split at hb
  ·rename_i b l c;split at hb
   ·rename_i l2 c2;have hg:(eqGuard op t x y (.slice b l c) (.slice none l2 c2)).run P w=.ok () w:=by unfold eqGuard;split<;>rfl
    have heq:(Op.equal t (.slice b l c) (.slice none l2 c2)).run P w=.ok b.isNone w:=by unfold Op.equal Op.maxDepth Op.equalIn;rw[mQL,hd,mQH];cases b<;>rfl
    rw[mQL,hg,mQH];rcases Hz hb with ⟨rfl,rfl⟩ | ⟨rfl,rfl⟩
    ·simp[Go.binOp,heq,A.aJH]
    ·simp[Go.binOp,heq,A.aJH]
   ·cases hb
  ·cases hb
 ·rename_i he;have hi:=jA hT (show(T.ty t).kd≠.none by rw[he];simp);obtain⟨d,hd,YW,kC,-⟩:=hi.dq w;obtain rfl:d=.bool:=by rw[kC]at he;cases d<;>simp[sF]at he;rfl
  split at hb
  ·rename_i b;split at hb
   ·rename_i c;have hg:(eqGuard op t x y (.bool b) (.bool c)).run P w=.ok () w:=by unfold eqGuard;split<;>rfl
    have heq:(Op.equal t (.bool b) (.bool c)).run P w=.ok (b==c) w:=run_equalIn_bool' w 9999 t b c YW;rw[mQL,hg,mQH];rcases Hz hb with ⟨rfl,rfl⟩ | ⟨rfl,rfl⟩
    ·simp[Go.binOp,heq,A.UB,EE]
    ·simp[Go.binOp,heq,A.UB,EE]
   ·cases hb
  ·cases hb
 ·rename_i fs he;have hi:=jA hT (vI he);obtain⟨ti,d,z,-,YW,-,-,-,-,-,kC,fXW⟩:=hi.ex;obtain⟨F,rfl,hF⟩:=Cj (kC ▸ he);split at hb
  ·rename_i Jg;rw[fXW]at Jg;simp only[Ul,mQG,mZm]at Jg;obtain⟨⟨h1,h2⟩,h3⟩:=Jg;split at hb
   ·rename_i xs;split at hb
    ·rename_i ys;split at hb
     ·rename_i tt jXs;have hg:(eqGuard op t x y (.agg xs) (.agg ys)).run P w=.ok () w:=run_eqGuard_agg w op t x y xs ys h1;have eZD:P.fieldsOf t=F:=by simp[Program.fieldsOf,YW]
      have Ao:P.underlying t=some (.struct (P.fieldsOf t)):=by rw[eZD];exact YW
      have heq:(Op.equalIn 10000 t (.agg xs) (.agg ys)).run P w=.ok tt w:=by rw[run_equalIn_agg w 9999 t xs ys Ao h2,eZD];exact CU hT 9998 xs ys w F.toList 0 tt h3 (by simpa[hF]using jXs)
      rw[mQL,hg,mQH];rcases Hz hb with ⟨rfl,rfl⟩ | ⟨rfl,rfl⟩
      ·rw[run_eql_struct,heq];rfl
      ·rw[run_neq_struct,heq];rfl
     ·cases hb
    ·cases hb
   ·cases hb
  ·cases hb
 ·cases hb
variable {P:Program}{T:bu}{A:Ar}[bM A]
variable {ds:List Deferred}{h0:ad}{w0:World}{β:Nat->Nat}{env:Env}{L:Loc}{h:ad}{a:Act}{w:World}
theorem Se{α:Type}{P:Program}{w:World}{x:Sem α}{f:α->Sem Next}{r:α}(hx:x.run P w=.ok r w):(x >>= f).run P w=(f r).run P w:=by rw[mQL,hx];rfl
def gF(P:Program)(β:Nat->Nat)(L:Loc)(a:Act)(w:World)(o:Oper)(sv:SV):Prop:=
 ∃v,(execOp a.eval o).run P w=.ok (.value v) w/\vw β L sv v
theorem gF.fin(hs:eO ds h0 w0 β env L h a w){o:Oper}{sv:SV}(hq:gF P β L a w o sv):
 ∃v w' uh,(execOp a.eval o).run P w=.ok (.value v) w'/\eO ds h0 w0 uh (put env o.dst sv) (vT L o.dst none) h (a.put o.dst v) w':=by
 obtain⟨v,hv,nR⟩:=hq;refine⟨v,w,β,hv,?_⟩;have:vT L o.dst none=L:=by unfold vT;cases o.dst<;>rfl
 rw[this];exact hs.put nR
theorem Hj(hT:gE P T){f:Field}{n:Nat}(hk:(T.ty f.type).kd.isNone=false)(hn:(T.ty f.type).size=n+1)(x:Addr)(w:World):
 (fieldPlace x f).run P w=.ok (x.add f.offset) w:=by
 have hi:=jA hT (jj hk);simp[fieldPlace,hi.iI,hn]
theorem QG{F:Array Field}{i ft off:Nat}{fs:List (Nat×Nat)}(hF:fs=F.toList.map fun f=>(f.type,f.offset))(hf:fs[i]? =some (ft,off)):
 ∃f,F[i]? =some f/\f.type=ft/\f.offset=off:=by
 subst hF;rw[mQU]at hf;cases hh:F.toList[i]? with
 |none=>simp[hh]at hf
 |some f=>simp[hh]at hf;exact⟨f,by simpa using hh,hf.1,hf.2⟩
theorem Po(hs:eO ds h0 w0 β env L h a w){s off n:Nat}{c cs:List Value}(hl:mM L s=some c)(ht:takeN c off n=some cs):
 cs.length=n/\∀j,j<cs.length->w.cell? ⟨β s,off+j,none⟩=cs[j]? :=by
 obtain⟨h1,h2⟩:=GJ ht;obtain⟨-,-,e,he⟩:=hs.loc s c hl;refine⟨h1,fun j hj=>?_⟩;rw[WV he,<-h2 j hj];simp
set_option maxHeartbeats 1000000 in
theorem Ef(hT:gE P T)(hs:eO ds h0 w0 β env L h a w){o:Oper}{sv:SV}{nb:Option (List Value)}
 (hl:kG A T (fun _=>P) o (Sx.rq env) L h (fun x y=>x=sv/\y=nb)):
 ∃v w' uh,(execOp a.eval o).run P w=.ok (.value v) w'/\eO ds h0 w0 uh (put env o.dst sv) (vT L o.dst nb) h (a.put o.dst v) w':=by
 unfold kG at hl;split at hl;case h_1 x ho=>-- move
  obtain⟨rfl,rfl⟩:=hl;exact gF.fin hs ⟨_,by simp only[execOp,ho];rfl,hs.rq x⟩
 case h_2 c x y ho=>-- pick
  split at hl
  ·rename_i hc;obtain⟨rfl,rfl⟩:=hl;exact gF.fin hs ⟨_,by simp only[execOp,ho,hs.bY hc];rfl,hs.rq x⟩
  ·rename_i hc;obtain⟨rfl,rfl⟩:=hl;exact gF.fin hs ⟨_,by simp only[execOp,ho,hs.bY hc];rfl,hs.rq y⟩
  ·exact hl.elim
 case h_3 e ho=>-- alloc
  split at hl
  ·exact hl.elim
  ·rename_i hk;split at hl
   ·exact hl.elim
   ·rename_i d hd;split at hl
    ·rename_i vN;obtain⟨rfl,rfl⟩:=hl;obtain⟨z,hz,Co⟩:=(jA hT (jj hk)).rG w;have hb:=hs.box vN (T.ty e).zero e;rw[hd];refine⟨_,_,_,?_,hb⟩;simp only[execOp,ho,Instr.alloc,mQL,hz,mQH,newVar,newRow,run_newObj,mQV];rw[<-Co]
    ·exact hl.elim
 case h_4 e x ho=>-- box
  split at hl
  ·exact hl.elim
  ·rename_i d hd;split at hl
   ·rename_i v hv;split at hl
    ·rename_i vN;obtain⟨rfl,rfl⟩:=hl;have hb:=hs.box vN v.cells.toList e;rw[hd];refine⟨_,_,_,?_,hb⟩;simp only[execOp,ho,Instr.box,mQL,mQH,newVar,newRow,run_newObj,mQV,hs.bY hv]
    ·exact hl.elim
   ·exact hl.elim
 case h_5 t x ho=>-- load
  split at hl
  ·exact hl.elim
  ·rename_i hk;have hi:=jA hT (jj hk);split at hl
   ·rename_i s off hx;split at hl
    ·rename_i c hc;split at hl
     ·rename_i cs ay;obtain⟨h1,h2⟩:=Po hs hc ay;obtain⟨v,h3,h4⟩:=nD hl;obtain⟨rfl,rfl⟩:=h4;obtain⟨v',h5,h6⟩:=tq hi w (β s) off cs h1 h2 h3;subst h6;exact gF.fin hs ⟨_,by simp only[execOp,ho,(hs.uV hx).2,Instr.loadAt,Instr.sureAddr,mQL,mQV,mQH,h5],rfl⟩
     ·exact hl.elim
    ·exact hl.elim
   ·rename_i y hx;obtain⟨cs,h1,hl⟩:=hl.out;obtain⟨g1,g2,g3⟩:=h1.cell hs.after.IV;obtain⟨v,h3,h4⟩:=nD hl;obtain⟨rfl,rfl⟩:=h4;obtain⟨v',h5,h6⟩:=tq hi w y.block y.off cs g2 g3 h3;subst h6;have:y=⟨y.block,y.off,none⟩:=by cases y;simp at g1;rw[g1]
    exact gF.fin hs ⟨_,by simp only[execOp,ho,hs.bY hx,Instr.loadAt,Instr.sureAddr,mQL,mQV,mQH];rw[this,h5];rfl,rfl⟩
   ·exact hl.elim
 case h_6 x ho=>-- nilCheck
  split at hl
  ·rename_i s off hx;obtain⟨rfl,rfl⟩:=hl;have:=hs.uV hx;exact gF.fin hs ⟨_,by simp only[execOp,ho,this.2];rfl,this.1,rfl⟩
  ·rename_i y hx;obtain⟨rfl,rfl⟩:=hl;exact gF.fin hs ⟨_,by simp only[execOp,ho,hs.bY hx];rfl,rfl⟩
  ·exact hl.elim
 case h_7 t x f ho=>-- fieldAddr
  split at hl
  ·rename_i fs Ao;have hi:=jA hT (vI Ao);obtain⟨d,hd,-,kC,-⟩:=hi.dq w;obtain⟨F,rfl,hF⟩:=Cj (kC ▸ Ao);split at hl
   ·rename_i ft off hf;obtain⟨fd,gJX,rfl,rfl⟩:=QG hF hf;split at hl
    ·exact hl.elim
    ·rename_i hk;split at hl
     ·exact hl.elim
     ·rename_i n hn;have hp:=fun y=>Hj hT hk hn y w;split at hl
      ·rename_i s off hx;obtain⟨rfl,rfl⟩:=hl;have:=hs.uV hx;exact gF.fin hs ⟨_,by simp only[execOp,ho,this.2,Instr.fieldAt,Instr.sureAddr,mQL,hd,mQH,gJX,mQV,hp,dF],this.1,rfl⟩
      ·rename_i y hx;obtain⟨rfl,rfl⟩:=hl;exact gF.fin hs ⟨_,by simp only[execOp,ho,hs.bY hx,Instr.fieldAt,Instr.sureAddr,mQL,hd,mQH,gJX,mQV,hp];rfl,by simp[vw,A.dZz]⟩
      ·exact hl.elim
   ·exact hl.elim
  ·exact hl.elim
 case h_8 t x ix ho=>-- indexAddr
  split at hl
  ·rename_i kk n JA;split at hl
   ·rename_i e he;have hi:=jA hT (iL he);obtain⟨d,hd,-,kC,-⟩:=hi.dq w;obtain rfl:=rN (kC ▸ he);split at hl
    ·exact hl.elim
    ·rename_i hk;have lW:=jA hT (jj hk);split at hl
     ·rename_i b len cap hx;obtain⟨⟨g1,g2,g3⟩,rfl,rfl⟩:=(show wI _ _ from hl);obtain⟨y,rfl⟩:=mZl.1 g1;refine gF.fin hs ⟨.pointer (some (y.add (n.toNat*(T.ty e).size))),?_,by simp[vw,A.yq,mS]⟩;simp[execOp,ho,hs.bY hx,hs.bY JA,Instr.indexAt,asIntOf,hd,lW.iI,g2,g3]
     ·exact hl.elim
   ·rename_i m e he;have hi:=jA hT (Tb he);obtain⟨d,hd,-,kC,-⟩:=hi.dq w;obtain rfl:=aJG (kC ▸ he);split at hl
    ·exact hl.elim
    ·rename_i hk;have lW:=jA hT (jj hk);split at hl
     ·rename_i s off hx;obtain⟨⟨g2,g3⟩,rfl,rfl⟩:=(show wI _ _ from hl);have:=hs.uV hx;refine gF.fin hs ⟨.pointer (some ⟨β s,off+n.toNat*(T.ty e).size,none⟩),?_,this.1,by simp[A.fQG]⟩;simp[execOp,ho,this.2,hs.bY JA,Instr.indexAt,asIntOf,hd,lW.iI,g2,g3,Instr.sureAddr,dF]
     ·rename_i y hx;obtain⟨⟨g2,g3⟩,rfl,rfl⟩:=(show wI _ _ from hl);refine gF.fin hs ⟨.pointer (some (y.add (n.toNat*(T.ty e).size))),?_,by simp[vw,A.yq,mS]⟩;simp[execOp,ho,hs.bY hx,hs.bY JA,Instr.indexAt,asIntOf,hd,lW.iI,g2,g3,Instr.sureAddr]
     ·exact hl.elim
   ·exact hl.elim
  ·exact hl.elim
 case h_9 t x ix ho=>-- index
  split at hl
  ·rename_i kk n JA;split at hl
   ·rename_i he;have hi:=jA hT (show(T.ty t).kd≠.none by rw[he];simp);obtain⟨d,hd,-,kC,-⟩:=hi.dq w;obtain rfl:=SY (kC ▸ he);split at hl
    ·rename_i s hx;obtain⟨⟨g2,g3⟩,rfl,rfl⟩:=(show wI _ _ from hl);have aP:n.toNat<s.size:=by omega
     refine gF.fin hs ⟨.int .u8 (s[n.toNat].toNat:Int),?_,?_⟩
     ·simp[execOp,ho,hs.bY hx,hs.bY JA,Instr.index,asIntOf,hd,g2,aP]
     ·have:n.toNat<s.data.size:=aP;simp only[vw,A.cZn,mXm,mXR this];rfl
    ·exact hl.elim
   ·exact hl.elim
  ·exact hl.elim
 case h_10 t x f ho=>-- field
  split at hl
  ·rename_i fs Ao;have hi:=jA hT (vI Ao);obtain⟨d,hd,-,kC,-⟩:=hi.dq w;obtain⟨F,rfl,hF⟩:=Cj (kC ▸ Ao);split at hl
   ·rename_i ft off hf;obtain⟨fd,gJX,rfl,rfl⟩:=QG hF hf;split at hl
    ·exact hl.elim
    ·rename_i hk;have jXR:=jA hT (jj hk);split at hl
     ·rename_i cs hx;split at hl
      ·rename_i ds fXZ;obtain⟨h1,h2⟩:=GJ fXZ;obtain⟨v,h3,h4⟩:=nD hl;obtain⟨rfl,rfl⟩:=h4;refine gF.fin hs ⟨v,?_,rfl⟩;have fXu:(part fd.type cs fd.offset).run P w=.ok v w:=by
        unfold part;rw[mQL,jXR.Kh];unfold uF at h3;cases hg:(T.ty fd.type).agg with
        |true=>
         simp only[hg]at h3;subst h3;unfold takeN at fXZ;split at fXZ
         ·cases fXZ;simp only[mQH,if_true,mQL,jXR.iI,mQV];congr 2;apply Array.ext';simp[mKy,List.extract]
         ·cases fXZ
        |false=>
         simp only[hg]at h3;cases ds with
         |nil=>exact h3.elim
         |cons y r=>simp only at h3;subst h3;have:=h2 0 (by simp);simp only[mZT,mXZ,nQg]at this;simp[this]
       simp only[execOp,ho,hs.bY hx,Instr.field,mQL,hd,mQH,gJX,asAgg,mQV,fXu]
      ·exact hl.elim
     ·exact hl.elim
   ·exact hl.elim
  ·exact hl.elim
 case h_11 x i ho=>-- extract
  split at hl
  ·rename_i vs hx;split at hl
   ·rename_i v hv;obtain⟨rfl,rfl⟩:=hl;simp only[mXZ]at hv;exact gF.fin hs ⟨v,by simp[execOp,ho,hs.bY hx,Instr.extract,hv],rfl⟩
   ·exact hl.elim
  ·exact hl.elim
 case h_12 t parts ho=>-- build
  split at hl
  ·exact hl.elim
  ·rename_i hk;split at hl
   ·rename_i ps iQD;split at hl
    ·rename_i cs ay;obtain⟨rfl,rfl⟩:=hl;have h1:=run_build hT w hk ay;have h2:(parts.map fun(i,x)=>(i,a.eval x))=ps.toArray:=by rw[<-xG hs iQD];apply Array.ext';simp
     exact gF.fin hs ⟨_,by simp only[execOp,ho,h2,mQL,h1,mQH,mQV],rfl⟩
    ·exact hl.elim
   ·exact hl.elim
 case h_13 op t x y ty ho=>-- binOp
  split at hl
  ·rename_i u hu;split at hl
   ·rename_i v hv;split at hl
    ·rename_i r hr;obtain⟨rfl,rfl⟩:=hl;have:=bXq (P:=P) (A:=A) (t:=t) (x:=x) (y:=y) hr w;exact gF.fin hs ⟨_,by simp only[execOp,ho,hs.bY hu,hs.bY hv];rw[Se this];rfl,rfl⟩
    ·split at hl
     ·rename_i r hr;obtain⟨rfl,rfl⟩:=hl;have:=bQZ (A:=A) hT (x:=x) (y:=y) hr w;exact gF.fin hs ⟨_,by simp only[execOp,ho,hs.bY hu,hs.bY hv];rw[Se this];rfl,rfl⟩
     ·obtain⟨r,⟨rfl,rfl⟩,h2⟩:=IM (e:=fun k _=>EG _ _ k) (fun k h=>by
       obtain⟨v,g1,g2⟩:=h.out;exact⟨v,g2,fun k' h'=>⟨v,g1,h'⟩⟩) hl
      have:=bXr (P:=P) (A:=A) (t:=t) (x:=x) (y:=y) (h2 (fun z=>z=r) rfl) (fun h w=>by
       obtain⟨v,g1,rfl⟩:=h.out;exact g1 w) w
      exact gF.fin hs ⟨_,by simp only[execOp,ho,hs.bY hu,hs.bY hv];rw[Se this];rfl,rfl⟩
   ·exact hl.elim
  ·exact hl.elim
 case h_14 op t x ho=>-- unOp
  split at hl
  ·rename_i b hx;split at hl
   ·obtain⟨rfl,rfl⟩:=hl;exact gF.fin hs ⟨.bool (!b),by simp only[execOp,ho,hs.bY hx];rfl,by simp[vw,A.not_eq]⟩
   ·exact hl.elim
  ·rename_i kd n hx;split at hl
   ·obtain⟨rfl,rfl⟩:=hl;exact gF.fin hs ⟨.int kd (kd.wrap (0-n)),by simp only[execOp,ho,hs.bY hx];rfl,by simp[vw,A.Bm,bB]⟩
   ·exact hl.elim
  ·exact hl.elim
 case h_15 src dst x ho=>-- convert
  split at hl
  ·rename_i q n hx;split at hl
   ·rename_i kd kC;split at hl
    ·rename_i ks jXK;obtain⟨rfl,rfl⟩:=hl;obtain⟨d1,YZ,-,vm,-⟩:=(jA hT (t:=dst) (by rw[kC];simp)).dq w;obtain⟨d2,aQr,-,sJ,-⟩:=(jA hT (t:=src) (by rw[jXK];simp)).dq w;have e1:d1=.int kd:=by rw[kC]at vm;cases d1<;>simp[sF]at vm;rw[vm]
     have e2:d2=.int ks:=by rw[jXK]at sJ;cases d2<;>simp[sF]at sJ;rw[sJ]
     subst e1 e2;have hr:(Go.convert src dst (.int q n)).run P w=.ok (.int kd (A.conv kd n)) w:=by rw[A.cXZ];simp[Go.convert,YZ,aQr,Conv.intToInt]
     exact gF.fin hs ⟨_,by simp only[execOp,ho,hs.bY hx];rw[Se hr];rfl,rfl⟩
    ·exact hl.elim
   ·obtain⟨r,h1,rfl,rfl⟩:=(show EG _ _ _ from hl).out;exact gF.fin hs ⟨r,by simp only[execOp,ho,hs.bY hx];rw[Se (h1 w)];rfl,rfl⟩
  ·rename_i u hu hx;obtain⟨r,h1,rfl,rfl⟩:=(show EG _ _ _ from hl).out;exact gF.fin hs ⟨r,by simp only[execOp,ho,hs.bY hx];rw[Se (h1 w)];rfl,rfl⟩
  ·exact hl.elim
 case h_16 t x ho=>-- makeInterface
  split at hl
  ·exact hl.elim
  ·exact hl.elim
  ·rename_i vm sJ;split at hl
   ·rename_i v hx;obtain⟨rfl,rfl⟩:=hl;have hi:=jA hT (t:=t) (fun e=>sJ e);obtain⟨d,hd,-,kC,-⟩:=hi.dq w;refine gF.fin hs ⟨.iface t v,?_,rfl⟩;simp only[execOp,ho,hs.bY hx,Instr.makeInterface,mQL,hd,mQH];cases d<;>first
     |rfl
     | (exact absurd kC (by simpa[sF]using vm))
   ·exact hl.elim
 case h_17 fn f c ho=>-- makeFunc
  split at hl
  ·rename_i fs Ao;split at hl
   ·rename_i cs ay;obtain⟨rfl,rfl⟩:=hl;refine gF.fin hs ⟨.func fn fs.toArray cs.toArray,?_,rfl⟩;simp only[execOp,ho,ld hs Ao,ld hs ay];rfl
   ·exact hl.elim
  ·exact hl.elim
 case h_18 t x lo hi mx ho=>-- slice
  split at hl
  ·rename_i l hh m h1 h2 h3;have e1:=GU hs h1;have e2:=GU hs h2;have e3:=GU hs h3;split at hl
   ·rename_i e he;have MR:=jA hT (iL he);obtain⟨d,hd,-,kC,-⟩:=MR.dq w;obtain rfl:=rN (kC ▸ he);split at hl
    ·exact hl.elim
    ·rename_i hk;have lW:=jA hT (jj hk);split at hl
     ·rename_i b len cap hx;obtain⟨v,hv,aV⟩:=AK hl;obtain⟨rfl,rfl⟩:=hv;obtain⟨Lo,Hi,Mx,hr,rfl⟩:=Sm (P:=P) (A:=A) e1 e2 e3 (aV (fun x=>x=v) rfl) w;refine gF.fin hs ⟨_,?_,rfl⟩;simp only[execOp,ho,hs.bY hx,Instr.sliceAt,Instr.slice,mQL,hd,mQH,hr,lW.iI,mQV]
     ·exact hl.elim
   ·rename_i he;have MR:=jA hT (show(T.ty t).kd≠.none by rw[he];simp);obtain⟨d,hd,-,kC,-⟩:=MR.dq w;obtain rfl:=SY (kC ▸ he);split at hl
    ·rename_i s hx;split at hl
     ·obtain⟨v,hv,aV⟩:=AM hl;obtain⟨rfl,rfl⟩:=hv;obtain⟨Lo,Hi,Mx,hr,rfl⟩:=Sn (P:=P) (A:=A) e1 e2 (aV (fun x=>x=v) rfl) w;have eZW:mx.map a.eval=none:=by
       rcases e3 with e3| ⟨n,k,e3,-⟩
       ·exact e3.2
       ·cases e3
      refine gF.fin hs ⟨_,?_,rfl⟩;simp[execOp,ho,hs.bY hx,Instr.sliceAt,Instr.slice,hd,hr,eZW]
     ·exact hl.elim
    ·exact hl.elim
   ·exact hl.elim
  ·exact hl.elim
 case h_19 b args argTypes ho=>-- bXo
  have yj:∀(vs:List Value),bl (args.toList.map (Sx.rq env))=some vs->
   (execOp a.eval o)=builtin b argTypes o.type (args.map fun| .const _=>true|_=>false) vs.toArray:=fun vs hv=>by
   simp only[execOp,ho,resolve];rw[ld hs hv];rfl
  split at hl
  ·split at hl
   ·rename_i t ht;split at hl
    ·rename_i q n r hv;split at hl
     ·rename_i e he;obtain⟨rfl,rfl⟩:=hl;have MR:=jA hT (iL he);obtain⟨d,hd,-,kC,-⟩:=MR.dq w;obtain rfl:=rN (kC ▸ he);refine gF.fin hs ⟨.int .i64 (Int.ofNat n),?_,by simp[vw,A.nat_eq]⟩;rw[yj _ hv];simp[builtin,Builtin.len_,ht,hd,goInt]
     ·exact hl.elim
    ·rename_i s hv;split at hl
     ·rename_i he;obtain⟨rfl,rfl⟩:=hl;have MR:=jA hT (show(T.ty t).kd≠.none by rw[he];simp);obtain⟨d,hd,-,kC,-⟩:=MR.dq w;obtain rfl:=SY (kC ▸ he);refine gF.fin hs ⟨.int .i64 (Int.ofNat s.size),?_,by simp[vw,A.aXQ]⟩;rw[yj _ hv];simp[builtin,Builtin.len_,ht,hd,goInt]
     ·exact hl.elim
    ·exact hl.elim
   ·exact hl.elim
  ·split at hl
   ·rename_i t ht;split at hl
    ·rename_i q r n hv;split at hl
     ·rename_i e he;obtain⟨rfl,rfl⟩:=hl;have MR:=jA hT (iL he);obtain⟨d,hd,-,kC,-⟩:=MR.dq w;obtain rfl:=rN (kC ▸ he);refine gF.fin hs ⟨.int .i64 (Int.ofNat n),?_,by simp[vw,A.nat_eq]⟩;rw[yj _ hv];simp[builtin,Builtin.cap_,ht,hd,goInt]
     ·exact hl.elim
    ·exact hl.elim
   ·exact hl.elim
  ·split at hl
   ·rename_i kd x kZL y hv;obtain⟨rfl,rfl⟩:=hl;refine gF.fin hs ⟨.int kd (min x y),?_,by simp[vw,A.cQm]⟩;rw[yj _ hv];simp only[builtin,Builtin.min_,mKx,mKw,Builtin.min2,mQL,mQV,mQH];congr 3;simp only[Int.min_def];split<;>split<;>omega
   ·exact hl.elim
  ·split at hl
   ·rename_i kd x kZL y hv;obtain⟨rfl,rfl⟩:=hl;refine gF.fin hs ⟨.int kd (max x y),?_,by simp[vw,A.cQn]⟩;rw[yj _ hv];simp only[builtin,Builtin.max_,mKx,mKw,Builtin.max2,mQL,mQV,mQH];congr 3;simp only[Int.max_def];split<;>split<;>omega
   ·exact hl.elim
  ·exact hl.elim
 case h_20 x q as ok ho=>-- typeAssert
  split at hl
  ·rename_i u hu;obtain⟨r,h1,rfl,rfl⟩:=(show EG _ _ _ from hl).out;exact gF.fin hs ⟨r,by simp only[execOp,ho,hs.bY hu];rw[Se (h1 w)];rfl,rfl⟩
  ·exact hl.elim
 case h_21=>exact hl.elim
variable {P:Program}{T:bu}{A:Ar}[bM A]
variable {ds:List Deferred}{h0:ad}{w0:World}{β:Nat->Nat}{env:Env}{L:Loc}{h:ad}{a:Act}{w:World}
theorem JM(z:List Value):∀(n i:Nat),i<n*z.length->(kx n z)[i]? =z[i % z.length]?
 |0,i,hi=>by simp at hi
 |n+1,i,hi=>by
  unfold kx;rw[mJt,mKv];by_cases hl:i<z.length
  ·rw[mZz hl,Nat.mod_eq_of_lt hl]
  ·rw[mXM (by omega)];have:=JM z n (i-z.length) (by rw[mXu]at hi;generalize n*z.length=q at *;omega);unfold kx at this;rw[this,<-Nat.mod_eq_sub_mod (by omega)]
theorem gG(z:List Value)(n:Nat):(kx n z).length=n*z.length:=by simp[kx,List.length_flatten]
theorem range_zero(z:Array Value)(n:Nat):(Array.range (n*z.size)).map (fun i=>z[i % z.size]!)=(kx n z.toList).toArray:=by
 apply Array.ext';apply mXz;intro i;by_cases hi:i<n*z.size
 ·have:=JM z.toList n i (by simpa using hi);simp only[Array.toList_map,mQU,List.toList_toArray]at this |-;rw[this];have hz:0<z.size:=by
   rcases mXw z.size with e|e
   ·rw[e]at hi;simp at hi
   ·exact e
  have hm:i % z.size<z.size:=mZy _ hz;simp[Array.toList_range,hi,hm]
 ·rw[mXL (by simp;omega),mXL (by simp[gG];omega)]
theorem yI(hs:Fo h w){b:Option Addr}{size n:Nat}{cs:List Value}(hr:dXU h b (n*size) cs)(x y:Nat):
 (Builtin.firstCells size n (.slice b x y)).run P w=.ok cs.toArray w:=by
 rcases hr with ⟨h1,rfl⟩ | ⟨q,rfl,hr⟩
 ·cases b with
  |none=>rfl
  |some q=>simp[Builtin.firstCells,h1,loadCells,loadCellsFrom]
 ·obtain⟨g1,g2,g3⟩:=hr.cell hs;simp only[Builtin.firstCells];rw[<-g2];have:q=⟨q.block,q.off,none⟩:=by cases q;simp at g1;rw[g1]
  rw[this];exact run_loadCells_list (P:=P) w _ cs (fun j v hv=>by
   have hj:j<cs.length:=by rw[HH]at hv;exact hv.1
   rw[dF,g3 j hj,hv])
theorem Rn.run(hs:Fo h w){q:Addr}{cs:List Value}{k:ad->Prop}(h1:oS cs=true)(hx:Rn h q cs k):
 ∃w' h',(storeCells q cs).run P w=.ok () w'/\k h'/\bW h w h' w':=by
 obtain⟨c,e,fr,g1,g2,g3,g4,g5⟩:=hx.out;have hq:q=⟨q.block,q.off,none⟩:=by cases q;simp at g1;rw[g1]
 obtain⟨w',k1,k2,k3,k4,k5⟩:=rH (P:=P) (b:=q.block) (o:=q.off) (e:=e) (fr:=fr) cs 0 c w (hs _ _ g2) (by omega) (by simpa using g4) h1;refine⟨w',_,?_,g5 _ rfl,?_⟩
 ·rw[hq];exact k1
 ·exact bW.set hs g2 (by simpa using k2) k3 k4 k5
theorem dQA.run(hs:Fo h w){b:Option Addr}{cs:List Value}{k:ad->Prop}(h1:oS cs=true)(hx:dQA h b cs k):
 ∃w' h',((match b with|some q=>storeCells q cs|none=>pure ()):Sem Unit).run P w=.ok () w'/\k h'/\bW h w h' w':=by
 rcases hx with ⟨rfl,hk⟩ | ⟨q,rfl,hx⟩
 ·refine⟨w,h,?_,hk,bW.refl hs⟩;cases b<;>rfl
 ·exact hx.run hs h1
theorem KT(n:Nat)(hn:256<=n):∀(r c:Nat),c<=2*n->Builtin.growBy n r c<=2*n
 |0,c,h=>h
 |r+1,c,h=>by
  unfold Builtin.growBy;split
  ·exact h
  ·exact KT n hn r _ (by omega)
theorem SG(n c:Nat)(h:c<n):Builtin.nextslicecap n c<=2*n:=by
 unfold Builtin.nextslicecap;split
 ·omega
 ·split
  ·omega
  ·exact KT n (by omega) 4 c (by omega)
theorem Me:(2:Int)^48=281474976710656:=rfl
theorem aZv:(2:Nat)^48=281474976710656:=rfl
theorem Jc.run(hs:Fo h w){b:Option Addr}{len cap n size bytes e:Nat}{new:List Value}{k:Value->ad->Prop}(hx:Jc h b len cap n size bytes e new k)
 {t u:TypeId} {argTypes:Array TypeId} (h0:argTypes[0]? =some t) (h1:argTypes[1]? =some u) {du:TypeDesc} (hu:P.underlying t=some (.slice e)) (fXc:P.underlying u=some du)
 {ti:Ti} (hi:Dt P e ti) (mX:ti.size=size) (rR:ti.bytes=bytes) (hz:ti.zero.length=size) {x:Value}
 (gJJ:(∃q m,x=.slice q n m/\(∀kk,du≠.int kk)/\dXU h q (n*size) new)\/(∃kk k' j,x=.int kk j/\du=.int k'/\j.toNat=n/\0<=j/\j<=2^48/\j*bytes<=2^48/\new=kx n ti.zero)) (ty:TypeId):
 ∃v w' h',(Builtin.append_ argTypes ty #[.slice b len cap,x]).run P w=.ok v w'/\k v h'/\bW h w h' w':=by
 obtain⟨z,aJY,Co⟩:=hi.rG w;have fXi:z.cells.size=size:=by rw[<-hz,<-Co];simp
 have MJ:∀W,(underlying t).run P W=.ok (.slice e) W:=fun W=>by simp[underlying,hu]
 have KE:∀W,(underlying u).run P W=.ok du W:=fun W=>by simp[underlying,fXc]
 have aJX:∀W,(zeroValue e).run P W=.ok z W:=fun W=>by
  obtain⟨iKJ,d',z',e1,-,e3,-⟩:=hi.ex;simp[zeroValue,typeInfo,e1,e3]at aJY |-;exact aJY
 obtain⟨tf,cJY,lY,jq⟩:∃tf,(∀W,(typeInfo e).run P W=.ok tf W)/\ti.size=tf.size/\ti.bytes=tf.bytes:=by obtain⟨iKJ,d',z',e1,-,e3,-,e4,e5,-⟩:=hi.ex;exact⟨iKJ,fun W=>by simp[typeInfo,e1],e4,e5⟩
 have Cq:∀W,(sizeOf e).run P W=.ok size W:=fun W=>by rw[hi.iI,mX]
 have hm:(∃q m,x=.slice q n m/\(∀kk,du≠.int kk)/\dXU h q (n*size) new)->(match du with| .int _=>true|_=>false)=false:=fun⟨_,_,_,aKv,_⟩=>by
  cases du<;>first
   |rfl
   |exact absurd rfl (aKv _)
 have cQs:∀m,Builtin.zeroCells z.cells m=(kx m ti.zero).toArray:=fun m=>by
  unfold Builtin.zeroCells;rw[range_zero,Co]
 by_cases Ie:len+n<=cap
 ·obtain⟨w',h',k1,k2,k3⟩:=(hx.fits Ie).run (P:=P) hs hx.one;refine⟨_,w',h',?_,k2,k3⟩;have fin:Sem.run P (match b with
   |some a=>Functor.map (fun a=>Value.slice b (len+n) cap) (storeCells (a.add (len*size)) new)
   |x=>pure (Value.slice b (len+n) cap)) w=Result.ok (Value.slice b (len+n) cap) w':=by
   cases b with
   |none=>simp at k1;simp[k1]
   |some q=>simp at k1;simp[k1]
  rcases gJJ with ⟨q,m,rfl,aKv,hr⟩ | ⟨kk,kq,j,rfl,rfl,NL,KP,jXQ,kKp,rfl⟩
  ·have kX:=hm ⟨q,m,rfl,aKv,hr⟩;simp[Builtin.append_,h0,h1,MJ,KE,Cq,kX,Builtin.lenOf,Ie,yI hs hr];exact fin
  ·have eZp:IntKind.i64.wrap j=j:=IntWalk.i64_in j (by omega);have Cy:¬j<0:=by omega
   have fXO:¬(281474976710656:Int)<j*tf.bytes:=by rw[<-jq,rR,<-Me];omega
   by_cases nf:n*size=0
   ·have ch:kx n ti.zero=[]:=mQT (by rw[gG,hz,nf]);rw[ch]at fin;simp[Builtin.append_,h0,h1,MJ,KE,Cq,asInt,asIntOf,eZp,Cy,cJY,fXO,NL,Ie,nf];exact fin
   ·simp[Builtin.append_,h0,h1,MJ,KE,Cq,asInt,asIntOf,eZp,Cy,cJY,fXO,NL,Ie,nf,aJX,cQs];exact fin
 ·obtain⟨b1,b2,aZL,ho,tY⟩:=hx.cKO (by omega);have Zb:¬(281474976710656<Builtin.nextslicecap (len+n) cap*tf.bytes):=by
   have:=SG (len+n) cap (by omega);have:=mXg tf.bytes this;rw[<-jq,rR]at this |-;have e:(2:Nat)^48=281474976710656:=by rfl
   omega
  have CG:¬((9223372036854775807:Int)<(len:Int)+n):=by rw[aZv]at b2;omega
  have Wr:Fo h w.drew:=hs;have eZD:(Question.appendCap (len+n) cap e).forced=false:=rfl;obtain⟨c,Ij⟩:∃c,(Question.appendCap (len+n) cap e).cut (w.tape w.drawn (Question.appendCap (len+n) cap e))=c:=⟨_,rfl⟩;have hc:len+n<=c:=by rw[<-Ij];simp[Question.cut]
  have hold:(Builtin.firstCells size len (.slice b len cap)).run P w.drew=.ok aZL.toArray w.drew:=yI Wr ho len cap;obtain⟨rest,ML⟩:∃rest,rest=kx (c-(len+n)) ti.zero:=⟨_,rfl⟩;have KI:rest.length=(c-(len+n))*size:=by rw[ML,gG,hz]
  have qF:=bW.new Wr (.cells (aZL++new++rest).toArray e (0,0));have kJG:w.drew.heap.size=w.heap.size:=rfl;refine⟨.slice (some ⟨w.heap.size,0,none⟩) (len+n) c,w.drew.alloc (.cells (aZL++(new++rest)).toArray e),_,?_,tY w.heap.size c _ rest (hs.qQ (mQt _)) hc KI rfl,?_⟩;rotate_left
  ·rw[<-mXd];exact⟨qF.os,qF.tape,qF.output,qF.size,qF.IV,qF.frame⟩
  rcases gJJ with ⟨q,m,rfl,aKv,hr⟩ | ⟨kk,kq,j,rfl,rfl,NL,KP,jXQ,kKp,jXA⟩
  ·have kX:=hm ⟨q,m,rfl,aKv,hr⟩;have iQA:(Builtin.firstCells size n (.slice q n m)).run P w.drew=.ok new.toArray w.drew:=yI Wr hr n m;simp[Builtin.append_,h0,h1,MJ,KE,Cq,kX,Builtin.lenOf,Ie,cJY,Zb,CG,eZD,hold,iQA,aJX,cQs,newRow,Ij,<-ML]
  ·have eZp:IntKind.i64.wrap j=j:=IntWalk.i64_in j (by rw[Me]at jXQ;omega);have Cy:¬j<0:=by omega
   have fXO:¬(281474976710656:Int)<j*tf.bytes:=by rw[<-jq,rR,<-Me];omega
   subst NL;have fZl:¬((9223372036854775807:Int)<(len:Int)+max j 0):=by rw[aZv]at b2;omega
   by_cases nf:j.toNat*size=0
   ·have ch:new=[]:=by rw[jXA];exact mQT (by rw[gG,hz,nf])
    simp[Builtin.append_,h0,h1,MJ,KE,Cq,asInt,asIntOf,eZp,Cy,cJY,fXO,Ie,Zb,CG,eZD,hold,nf,aJX,cQs,newRow,Ij,<-ML,ch,fZl]
   ·simp[Builtin.append_,h0,h1,MJ,KE,Cq,asInt,asIntOf,eZp,Cy,cJY,fXO,Ie,Zb,CG,eZD,hold,nf,aJX,cQs,newRow,Ij,<-ML,<-jXA,fZl]
variable {P:Program}{T:bu}{A:Ar}[bM A]
variable {ds:List Deferred}{h0:ad}{w0:World}{β:Nat->Nat}{env:Env}{L:Loc}{h:ad}{a:Act}{w:World}
def gZp(Lc L FU L':Loc):Prop:=(FU=Lc/\L'=L)\/∃s c x y,mM Lc s=some x/\mM L s=some y/\FU=Bz Lc s c/\L'=Bz L s c
theorem Aw.run(hs:Fo h w){e:Nat}{l c:Int}{kl kc:IntKind}{z:List Value}{bytes:Nat}{k:Value->ad->Prop}(hx:Aw h e l c bytes z k)
 {t:TypeId} (hu:P.underlying t=some (.slice e)) {ti:Ti} (hi:Dt P e ti) (rR:ti.bytes=bytes) (hz:ti.zero=z) (Fz:z.length=ti.size):
 ∃v w' h',(Instr.makeSlice t (.int kl l) (.int kc c)).run P w=.ok v w'/\k v h'/\bW h w h' w':=by
 obtain⟨l0,l1⟩:=hx.len;obtain⟨r0,r1⟩:=hx.room;rw[Me]at r0 r1;obtain⟨zz,aJY,Co⟩:=hi.rG w;obtain⟨tf,cJY,lY,jq⟩:=hi.OK w;have Cq:=hi.iI w;have MJ:(underlying t).run P w=.ok (.slice e) w:=by simp[underlying,hu]
 have Jv:IntKind.i64.wrap l=l:=IntWalk.i64_in l (by omega);have jXm:IntKind.i64.wrap c=c:=IntWalk.i64_in c (by omega);have qF:=bW.new hs (.cells (kx c.toNat z).toArray e (0,0));refine⟨_,_,_,?_,hx.out w.heap.size _ (hs.qQ (mQt _)) rfl,qF⟩;have h1:¬c<0:=by omega
 have h2:¬((281474976710656:Int)<(tf.bytes:Int)*c):=by rw[<-jq,rR];omega
 have h3:¬l<0:=by omega
 have h4:¬c<l:=by omega
 have dJq:zz.cells.size=ti.size:=by rw[<-Fz,<-hz,<-Co];simp
 have fXo:=range_zero zz.cells c.toNat;rw[dJq,Co,hz]at fXo;by_cases nf:c.toNat*ti.size=0
 ·have ch:kx c.toNat z=[]:=mQT (by rw[gG,Fz,nf]);have lK:(Array.map (fun(_:Nat)=>(default:Value)) (Array.range 0))= #[]:=by simp
  simp[Instr.makeSlice,MJ,asInt,asIntOf,cJY,Jv,jXm,h1,h2,h3,h4,Cq,nf,newRow,ch,lK]
 ·simp[Instr.makeSlice,MJ,asInt,asIntOf,cJY,Jv,jXm,h1,h2,h3,h4,Cq,nf,newRow,aJY,dJq,fXo]
theorem Xn{n:Nat}{z:List Value}(h:n*z.length=0):kx n z=[]:=mQT (by rw[gG,h])
theorem EP{a b:List Value}(ha:oS a=true)(hb:oS b=true):oS (a++b)=true:=by
 induction a with
 |nil=>exact hb
 |cons x r ih=>
  simp only[mJm,oS]at ha |-;cases h1:one x with
  |true=>simp only[h1]at ha |-;exact ih ha
  |false=>simp only[h1]at ha;cases ha
theorem AU{z:List Value}(hz:oS z=true):∀n,oS (kx n z)=true
 |0=>rfl
 |n+1=>by
  unfold kx;rw[mJt,mKv];exact EP hz (AU hz n)
theorem rj(hT:gE P T){g:FuncId}(hg:T.fn g=true)(args:Array Value)(w:World):(callFunc g args).run P w=.ok (.enter g args) w:=by obtain⟨fn,h1,h2,h3⟩:=hT.fn g hg;obtain⟨c,hc⟩:=mZl.1 h2;simp[callFunc,h1,h3,hc]
abbrev FW(ro:Option Nat):Fence:={ Fence.wide with round:=ro }
variable {ro:Option Nat}{n:Nat}
def qN(T:bu)(ds:List Deferred)(h0:ad)(w0:World)(Q:Exit->Act->World->Prop):Prop:=
 ∀c β env L h a w,T.kp c (T.rs.map fun t=>Sx.rq env (.tmp t)) h->eO ds h0 w0 β env L h a w->Q (.panic c) a w
theorem uo{o:Oper}{next:Act->World->Prop}{Q:Exit->Act->World->Prop}(KL:∀c,o.op≠.defer c){r:Result Next}(hr:(execOp a.eval o).run P w=r)(h:o.uponIn (FW ro) n P a next Q r):o.wpIn (FW ro) n P a w next Q:=by unfold Oper.wpIn;refine⟨fun _ _=>trivial,?_⟩;rw[Oper.semAt_eq _ _ _ KL,hr];exact h
theorem BV{o:Oper}{r:Next}{w':World}(hr:(execOp a.eval o).run P w=.ok r w')(hn:∀d,r≠.defer d):∀c,o.op≠.defer c:=fun c hc=>by
 simp only[execOp,hc,mQL]at hr;cases hx:(resolve a.eval c o.type).run P w with
 |ok d w1=>rw[hx]at hr;simp only[mQH,mQV]at hr;cases hr;exact hn _ rfl
 |halt=>rw[hx]at hr;cases hr
theorem wV{o:Oper}{next:Act->World->Prop}{Q:Exit->Act->World->Prop}{v:Value}{w':World}(hr:(execOp a.eval o).run P w=.ok (.value v) w')(h:next (a.put o.dst v) w'):o.wpIn (FW ro) n P a w next Q:=
 uo (BV hr (fun _ e=>by cases e)) hr h
theorem NV{o:Oper}{next:Act->World->Prop}{Q:Exit->Act->World->Prop}{w':World}(hr:(execOp a.eval o).run P w=.ok .skip w')(h:next (a.put o.dst undef) w'):o.wpIn (FW ro) n P a w next Q:=
 uo (BV hr (fun _ e=>by cases e)) hr h
set_option maxHeartbeats 2000000 in
theorem Tf(hT:gE P T)(hs:eO ds h0 w0 β env L h a w){Lc:Loc}(lQm:∀s c,mM L s=some c->mM Lc s=some c){o:Oper}{k:SV->Loc->ad->Prop}
 (hk:hx A T (fun _=>P) o (Sx.rq env) Lc h k) {next:Act->World->Prop} {Q:Exit->Act->World->Prop}
 (mZ:qN T ds h0 w0 Q) (hn:∀sv v FU L' h' w',k sv FU h'->eO ds h0 w0 β (put env o.dst sv) L' h' (a.put o.dst v) w'->gZp Lc L FU L'->next (a.put o.dst v) w'):o.wpIn (FW ro) n P a w next Q:=by
 have val:∀ {v:Value} {w':World} {h':ad},(execOp a.eval o).run P w=.ok (.value v) w'->k (.v v) Lc h'->bW h w h' w'->o.wpIn (FW ro) n P a w next Q:=fun{v w' h'} hr Jz ha=>
  wV hr (hn _ _ _ _ _ _ Jz ((hs.step ha).put rfl) (.inl ⟨rfl,rfl⟩))
 have iKP:∀ {w':World} {h':ad},(execOp a.eval o).run P w=.ok .skip w'->k (.v undef) Lc h'->bW h w h' w'->o.wpIn (FW ro) n P a w next Q:=fun{w' h'} hr Jz ha=>
  NV hr (hn _ _ _ _ _ _ Jz ((hs.step ha).put rfl) (.inl ⟨rfl,rfl⟩))
 have CH:=hs.after.IV;have dXD:∀ {s:Sem Value},fW (fun _=>P) (fun _=>s) h (fun r h'=>k (.v r) Lc h')->execOp a.eval o=(do pure (.value (<-s)))->o.wpIn (FW ro) n P a w next Q:=fun{s} hx he=>by
  obtain⟨v,w',h',k1,k2,k3⟩:=hx.out w CH;exact val (by rw[he,mQL,k1];rfl) k2 k3
 have dXC:∀ {s:Sem Unit},fW (fun _=>P) (fun _=>do s;pure undef) h (fun _ h'=>k (.v undef) Lc h')->execOp a.eval o=(do s;pure .skip)->o.wpIn (FW ro) n P a w next Q:=fun{s} hx he=>by
  obtain⟨v,w',h',k1,k2,k3⟩:=hx.out w CH;rw[mQL]at k1;cases hr:s.run P w with
  |ok u w1=>rw[hr]at k1;simp only[mQH,mQV]at k1;cases k1;exact iKP (by rw[he,mQL,hr];rfl) k2 k3
  |halt=>rw[hr]at k1;cases k1
 unfold hx at hk;split at hk;case h_1 x ho=>-- assign
  have hr:(execOp a.eval o).run P w=.ok (.value (a.eval x)) w:=by simp only[execOp,ho];rfl
  refine wV hr ?_;exact hn _ _ _ _ _ _ hk (hs.put (hs.rq x)) (.inl ⟨rfl,rfl⟩)
 case h_2 t q x ho=>-- store
  split at hk
  ·exact hk.elim
  ·rename_i kC;have hi:=jA hT (jj kC);split at hk
   ·rename_i v hv;split at hk
    ·exact hk.elim
    ·rename_i mX;have fXi:v.cells.size=(T.ty t).size:=by simpa using mX
     split at hk
     ·exact hk.elim
     ·rename_i h1;have ig:∀ {y:Addr} {w':World},(storeCells y v.cells.toList).run P w=.ok () w'->(Instr.storeAt t (.pointer (some y)) v).run P w=.ok () w':=fun{y w'} hr=>by
       simp only[Instr.storeAt,Instr.sureAddr,mQL,mQV,mQH,storeVar,hi.iI,fXi];simp[hr]
      split at hk
      ·rename_i s off hq;split at hk
       ·rename_i c hc;obtain⟨⟨c',wG⟩,cKz⟩:=hs.uV hq;have:c'=c:=by have:=lQm _ _ wG;rw[hc]at this;cases this;rfl
        subst this;split at hk
        ·rename_i hd;have fZh:=mQB hd;obtain⟨-,-,e,he⟩:=hs.loc s c' wG;obtain⟨w',k1,k2,k3,k4,k5⟩:=rH (P:=P) (b:=β s) (o:=off) (e:=e) (fr:=(0,0)) v.cells.toList 0 c'.toArray w he (by simpa using fZh) (by simp) h1;have hr:(execOp a.eval o).run P w=.ok .skip w':=by simp only[execOp,ho,cKz,hs.bY hv,mQL,ig k1,mQH,mQV]
         refine NV hr ?_;refine hn _ _ _ (Bz L s (jS c' off v.cells.toList)) _ _ hk (eO.put ?_ rfl) (.inr ⟨s,_,c',c',hc,wG,rfl,rfl⟩);refine hs.dXB wG (fun e' jXZ=>?_) k3 k4 k5;rw[he]at jXZ;cases jXZ;simpa using k2
        ·exact hk.elim
       ·exact hk.elim
      ·rename_i y hq;obtain⟨w',h',k1,k2,k3⟩:=(show Rn h y v.cells.toList _ from hk).run (P:=P) CH h1;exact iKP (by simp only[execOp,ho,hs.bY hq,hs.bY hv,mQL,ig k1,mQH,mQV]) k2 k3
      ·exact hk.elim
   ·exact hk.elim
 case h_3 e ho=>-- alloc
  split at hk
  ·exact hk.elim
  ·rename_i kC;obtain⟨z,hz,Co⟩:=(jA hT (jj kC)).rG w;refine val ?_ (hk w.heap.size _ (CH.qQ (mQt _)) rfl) (bW.new CH _);simp only[execOp,ho,Instr.alloc,mQL,hz,mQH,newVar,newRow,run_newObj,mQV];rw[<-Co]
 case h_4 e x ho=>-- box
  split at hk
  ·rename_i v hv;refine val ?_ (hk w.heap.size _ (CH.qQ (mQt _)) rfl) (bW.new CH _);simp only[execOp,ho,Instr.box,mQL,mQH,newVar,newRow,run_newObj,mQV,hs.bY hv]
  ·exact hk.elim
 case h_5 t len parts ho=>-- buildSlice
  split at hk
  ·rename_i e he;have MR:=jA hT (iL he);obtain⟨d,hd,YW,kC,-⟩:=MR.dq w;obtain rfl:=rN (kC ▸ he);split at hk
   ·exact hk.elim
   ·rename_i aKF;have lW:=jA hT (jj aKF);split at hk
    ·rename_i ps iQD;split at hk
     ·rename_i gKn Fz;have gKn:len*(T.ty e).size<=2^24:=mQB gKn;have YK:(T.ty e).zero.length=(T.ty e).size:=by simpa using Fz
      split at hk
      ·rename_i cs ay;refine val ?_ (hk w.heap.size _ (CH.qQ (mQt _)) rfl) (bW.new CH _);obtain⟨zz,aJY,Co⟩:=lW.rG w;have dJq:zz.cells.size=(T.ty e).size:=by rw[<-YK,<-Co];simp
       have fXo:=range_zero zz.cells len;rw[dJq,Co]at fXo;have Gk:(parts.map fun(i,x)=>(i,a.eval x))=ps.toArray:=by rw[<-xG hs iQD];apply Array.ext';simp
       have aQq:=fill_eq (fun i=>some (i*(T.ty e).size,(T.ty e).size)) ps (kx len (T.ty e).zero).toArray cs (by simpa using ay);have iZA:¬(2^24<len*(T.ty e).size):=by omega
       by_cases nf:len*(T.ty e).size=0
       ·have ch:kx len (T.ty e).zero=[]:=Xn (by rw[YK,nf]);rw[ch]at aQq;have lK:(Array.map (fun(_:Nat)=>(default:Value)) (Array.range 0))= #[]:=by simp
        simp only[List.toArray]at aQq;simp[execOp,ho,Instr.buildSlice,hd,lW.iI,nf,Gk,aQq,newRow,lK]
       ·have fZI:¬(16777216<len*(T.ty e).size):=iZA;simp[execOp,ho,Instr.buildSlice,hd,lW.iI,fZI,nf,Gk,aQq,newRow,aJY,dJq,fXo]
      ·exact hk.elim
     ·exact hk.elim
    ·exact hk.elim
  ·exact hk.elim
 case h_6 t l c ho=>-- makeSlice
  split at hk
  ·rename_i e he;have MR:=jA hT (iL he);obtain⟨d,hd,YW,kC,-⟩:=MR.dq w;obtain rfl:=rN (kC ▸ he);split at hk
   ·exact hk.elim
   ·rename_i aKF;have lW:=jA hT (jj aKF);split at hk
    ·rename_i kl l' hl;split at hk
     ·rename_i kc c' hc;split at hk
      ·rename_i Fz;obtain⟨v,w',h',k1,k2,k3⟩:=Aw.run (P:=P) (kl:=kl) (kc:=kc) CH hk YW lW rfl rfl (by simpa using Fz);exact val (by simp only[execOp,ho,hs.bY hl,hs.bY hc,mQL,k1,mQH,mQV]) k2 k3
      ·exact hk.elim
     ·exact hk.elim
    ·exact hk.elim
  ·exact hk.elim
 case h_7 t r ho=>-- makeMap
  split at hk
  ·exact val (by simp[execOp,ho,Instr.makeMap]) (hk w.heap.size _ (CH.qQ (mQt _)) rfl) (bW.new CH _)
  ·exact hk.elim
 case h_8 f args argTypes ho=>-- call
  split at hk
  ·rename_i g first cap hf
   split at hk
   ·rename_i as has;split at hk
    ·rename_i hg;have hr:(execOp a.eval o).run P w=.ok (.enter g (first++as.toArray++cap)) w:=by simp only[execOp,ho,resolve,hs.bY hf,ld hs has,Deferred.ofValue,mQL,mQV,mQH,invoke,rj hT hg]
     refine uo (BV hr (fun _ e=>by cases e)) hr ?_;refine⟨fun hd=>by simp[FW,Fence.wide]at hd,?_⟩;have he:(first.toList++as++cap.toList).toArray=first++as.toArray++cap:=by apply Array.ext';simp
     split at hk
     ·have:=callsIn_wide (n:=n-1).2 ((show Rr _ _ _ _ _ _ from hk).out w CH);rw[he]at this;refine CallsIn.mono (F:=FW ro) (show CallsIn (FW ro) (n-1) P g _ w _ from this) fun e w' hq=>?_;rcases hq with ⟨v,h',h1,h2,h3⟩ | ⟨c,h',h1,h2,h3⟩
      ·subst h1;exact hn _ _ _ _ _ _ h2 ((hs.step h3).put rfl) (.inl ⟨rfl,rfl⟩)
      ·subst h1;exact mZ c _ _ _ _ _ _ h2 (hs.step h3)
     ·have:=callsIn_wide (n:=n-1).2 ((show aQI _ _ _ _ _ from hk).out w CH);rw[he]at this;refine CallsIn.mono (F:=FW ro) (show CallsIn (FW ro) (n-1) P g _ w _ from this) fun e w' ⟨v,h',h1,h2,h3⟩=>?_;subst h1;exact hn _ _ _ _ _ _ h2 ((hs.step h3).put rfl) (.inl ⟨rfl,rfl⟩)
    ·obtain⟨v,w',h',k1,k2,k3⟩:=(show fW _ _ _ _ from hk).out w CH;refine val ?_ k2 k3;have he:(first.toList++as++cap.toList).toArray=first++as.toArray++cap:=by apply Array.ext';simp
     simp only[Iu]at k1;rw[he,mQL]at k1;simp only[execOp,ho,resolve,hs.bY hf,ld hs has,Deferred.ofValue,mQL,mQV,mQH,invoke];cases hr:(callFunc g (first++as.toArray++cap)).run P w with
     |ok n w1=>
      rw[hr]at k1;simp only[mQH]at k1;cases n with
      |value z=>simp only[mQV]at k1;cases k1;rfl
      |_=>simp at k1
     |halt=>rw[hr]at k1;cases k1
   ·exact hk.elim
  ·rename_i l first cap hf
   split at hk
   ·rename_i as has;obtain⟨fn,tmps,Fk,body,g1,g2⟩:=(show cZH _ _ _ _ _ from hk).out w CH;have he:(first.toList++as).toArray=first++as.toArray:=by apply Array.ext';simp
    have hr:(execOp a.eval o).run P w=.ok (.round l fn tmps Fk body) w:=by rw[he]at g1;simp only[execOp,ho,resolve,hs.bY hf,ld hs has,Deferred.ofValue,mQL,mQV,mQH,invoke,g1]
    refine uo (BV hr (fun _ e=>by cases e)) hr ?_;refine⟨fun hd=>by simp[FW,Fence.wide]at hd,?_⟩;refine RoundIn.mono (F:=FW ro) (show RoundIn (FW ro) (n-1) P l fn tmps Fk body w _ from g2 (n-1)) fun e w' ⟨v,h',h1,h2,h3⟩=>?_;subst h1;exact hn _ _ _ _ _ _ h2 ((hs.step h3).put rfl) (.inl ⟨rfl,rfl⟩)
   ·exact hk.elim
  ·exact hk.elim
 case h_9 b args argTypes ho=>-- bXo
  have yj:∀(vs:List Value),bl (args.toList.map (Sx.rq env))=some vs->
   (execOp a.eval o)=builtin b argTypes o.type (args.map fun| .const _=>true|_=>false) vs.toArray:=fun vs hv=>by
   simp only[execOp,ho,resolve];rw[ld hs hv];rfl
  split at hk
  ·split at hk -- append
   ·rename_i t u ht hu;split at hk
    ·rename_i e he;have MR:=jA hT (iL he);obtain⟨d,hd,YW,kC,-⟩:=MR.dq w;obtain rfl:=rN (kC ▸ he);split at hk
     ·exact hk.elim
     ·rename_i aKF;have lW:=jA hT (jj aKF);split at hk
      ·exact hk.elim
      ·rename_i Fz;have YK:(T.ty e).zero.length=(T.ty e).size:=by simpa using Fz
       split at hk
       ·rename_i b' len cap x n q hv;split at hk
        ·rename_i e2 Ep;obtain⟨d2,-,dKz,dKr,-⟩:=(jA hT (iL Ep)).dq w;obtain rfl:=rN (dKr ▸ Ep);obtain⟨new,g1,g2⟩:=(show iU _ _ _ _ _ _ _ _ _ _ from hk).out;obtain⟨v,w',h',k1,k2,k3⟩:=g2.run (P:=P) CH ht hu YW dKz lW rfl rfl YK (.inl ⟨x,q,rfl,fun _=>by simp,g1⟩) o.type;exact val (by rw[yj _ hv];simp only[builtin,mQL,k1,mQH,mQV]) k2 k3
        ·exact hk.elim
       ·rename_i b' len cap kk n hv;split at hk
        ·rename_i Ep;obtain⟨d2,-,dKz,dKr,-⟩:=(jA hT (show(T.ty u).kd≠.none by rw[Ep];simp)).dq w;obtain⟨k',rfl⟩:∃k',d2=.int k':=by rw[dKr]at Ep;cases d2<;>simp[sF]at Ep;exact⟨_,rfl⟩
         obtain⟨⟨c1,c2,c3⟩,g2⟩:=(show wI _ _ from hk);have g2:=g2.out;rw[show A.su n 0=n.toNat by rw[A.Ey];simp]at g2;obtain⟨v,w',h',k1,k2,k3⟩:=Jc.run (P:=P) CH g2 ht hu YW dKz lW rfl rfl YK (x:=.int kk n) (.inr ⟨kk,k',n,rfl,rfl,rfl,c1,c2,c3,rfl⟩) o.type;exact val (by rw[yj _ hv];simp only[builtin,mQL,k1,mQH,mQV]) k2 k3
        ·exact hk.elim
       ·exact hk.elim
    ·exact hk.elim
   ·exact hk.elim
  ·split at hk -- copy
   ·rename_i t ht;split at hk
    ·rename_i e he;have MR:=jA hT (iL he);obtain⟨d,hd,YW,kC,-⟩:=MR.dq w;obtain rfl:=rN (kC ▸ he);split at hk
     ·exact hk.elim
     ·rename_i aKF;have lW:=jA hT (jj aKF);split at hk
      ·rename_i b' len q x n q' hv;obtain⟨cs,g1,g2,g3⟩:=(show Ja _ _ _ _ _ _ _ from hk).out;obtain⟨w',h',k1,k2,k3⟩:=g3.run (P:=P) CH g2;refine val ?_ k2 k3;rw[yj _ hv];have hf:=yI (P:=P) CH g1 n q';have YS:Nat.min n len=min n len:=rfl;simp[builtin,Builtin.copy_,ht,hd,Builtin.lenOf,lW.iI,YS,hf,goInt];cases b' with
       |none=>simp at k1;simp[k1]
       |some y=>simp at k1;simp[k1]
      ·exact hk.elim
    ·exact hk.elim
   ·exact hk.elim
  ·split at hk -- clear
   ·rename_i t ht;split at hk
    ·rename_i e he;have MR:=jA hT (iL he);obtain⟨d,hd,YW,kC,-⟩:=MR.dq w;obtain rfl:=rN (kC ▸ he);split at hk
     ·exact hk.elim
     ·rename_i aKF;have lW:=jA hT (jj aKF);split at hk
      ·exact hk.elim
      ·rename_i Fz;have YK:(T.ty e).zero.length=(T.ty e).size:=by simpa using Fz
       split at hk
       ·rename_i b' len q hv;obtain⟨g2,g3⟩:=(show Bo _ _ _ _ _ from hk);obtain⟨w',h',k1,k2,k3⟩:=g3.run (P:=P) CH (AU g2 len);refine val ?_ k2 k3;rw[yj _ hv];obtain⟨zz,aJY,Co⟩:=lW.rG w;have hKV:Builtin.zeroCells zz.cells len=(kx len (T.ty e).zero).toArray:=by unfold Builtin.zeroCells;rw[range_zero,Co]
        cases b' with
        |none=>simp at k1;subst k1;simp[builtin,Builtin.clear_,ht,hd]
        |some y=>
         simp at k1;cases len with
         |zero=>have:kx 0 (T.ty e).zero=[]:=rfl;rw[this]at k1;simp[storeCells]at k1;subst k1;simp[builtin,Builtin.clear_,ht,hd]
         |succ m=>simp[builtin,Builtin.clear_,ht,hd,aJY,hKV,k1]
       ·exact hk.elim
    ·exact hk.elim
   ·exact hk.elim
  ·split at hk -- delete
   ·rename_i as has;exact dXD hk (by rw[yj _ has];rfl)
   ·exact hk.elim
  ·exact hk.elim
 case h_10 src dst x ho=>-- convert
  split at hk
  ·rename_i u hu;exact dXD hk (by simp only[execOp,ho,hs.bY hu])
  ·exact hk.elim
 case h_11 t x i b ho=>-- lookup
  split at hk
  ·rename_i u hu;split at hk
   ·rename_i v hv;exact dXD hk (by simp only[execOp,ho,hs.bY hu,hs.bY hv])
   ·exact hk.elim
  ·exact hk.elim
 case h_12 t m i x ho=>-- mapUpdate
  split at hk
  ·rename_i u hu;split at hk
   ·rename_i v hv;split at hk
    ·rename_i z hz;exact dXC hk (by simp only[execOp,ho,hs.bY hu,hs.bY hv,hs.bY hz])
    ·exact hk.elim
   ·exact hk.elim
  ·exact hk.elim
 case h_13 t m i ho=>-- mapEntry
  split at hk
  ·rename_i u hu;split at hk
   ·rename_i v hv;exact dXD hk (by simp only[execOp,ho,hs.bY hu,hs.bY hv])
   ·exact hk.elim
  ·exact hk.elim
 case h_14 t m i x ho=>-- entryStore
  split at hk
  ·rename_i u hu;split at hk
   ·rename_i v hv;split at hk
    ·rename_i z hz;exact dXC hk (by simp only[execOp,ho,hs.bY hu,hs.bY hv,hs.bY hz])
    ·exact hk.elim
   ·exact hk.elim
  ·exact hk.elim
 case h_15 t x ho=>-- range
  split at hk
  ·rename_i u hu;exact dXD hk (by simp only[execOp,ho,hs.bY hu])
  ·exact hk.elim
 case h_16 it str ho=>-- next
  split at hk
  ·rename_i u hu;exact dXD hk (by simp only[execOp,ho,hs.bY hu])
  ·exact hk.elim
 case h_17 it ho=>-- entry
  split at hk
  ·rename_i u hu;exact dXD hk (by simp only[execOp,ho,hs.bY hu])
  ·exact hk.elim
 case h_18 t m i x ho=>-- insert
  split at hk
  ·rename_i u hu;split at hk
   ·rename_i v hv;split at hk
    ·rename_i z hz;exact dXC hk (by simp only[execOp,ho,hs.bY hu,hs.bY hv,hs.bY hz])
    ·exact hk.elim
   ·exact hk.elim
  ·exact hk.elim
 case h_19 x ho=>-- panic
  split at hk
  ·rename_i t v hv;have hr:(execOp a.eval o).run P w=.halt (.panic (.iface t v)) w:=by simp only[execOp,ho,hs.bY hv,mQL,show(Instr.panic (.iface t v)).run P w=.halt (.panic (.iface t v)) w from rfl];rfl
   refine uo (fun c hc=>by rw[hc]at ho;cases ho) hr ?_;rw[Oper.uponIn_panic];exact mZ _ _ _ _ _ _ _ hk hs
  ·exact hk.elim
 case h_20=>exact hk.elim
end Go.Sx
