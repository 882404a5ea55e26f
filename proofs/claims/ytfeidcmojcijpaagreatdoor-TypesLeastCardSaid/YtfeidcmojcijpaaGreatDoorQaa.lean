import Derived.Test.YtfeidcmojcijpaaGreatDoorChecked
import Derived.Maps.OwnSet
import Derived.WalkKit
import Derived.Lib.Hide
import Derived.WalkSpells
import Derived.WalkLawsBesides
import Derived.Lib.IndexMore
import Derived.Lib.Replace
import Derived.Lib.RuneBytes
import Derived.Below
import Derived.Lib.TrailingZeros
import Derived.Laws.Bits64b
import Derived.IntWalk
import Derived.OrdersHeld
import Derived.Deep.RegionHeld
import Derived.RegionTactic
import Derived.Deep.QuietTactic
import Derived.BigQuiet
import Derived.Lib.OthersKept
import Derived.Deep.RegionHeld3
import Derived.StillTailTactics
import Derived.Deep.LoopGhost
import Derived.Laws.EntriesVeiled
import Derived.Laws.OwnMore
import Derived.Maps.AppendAt
import Derived.Maps.Range
import Derived.Deep.OwnRows
import Derived.Deep.DeepMust
import Derived.Test.YtfeidcmojcijpaaGreatDoorShelf
import Derived.Lib.SlicesCompact
import Derived.Lib.OwnBridge
import Derived.Sort.OwnSorted
import Derived.Sort.Walk0
import Derived.Shelf.Strings.SlTrimAscii
import Derived.RangeFuncNested
import Derived.RangeFuncBound
import Derived.RangeFuncCalls
import Derived.RangeFuncLeaves
import Derived.Shelf.Abstract
import Derived.Shelf.RegionOpen
import Derived.OwnWalkIn
import Derived.TacticsInMore
import Derived.LoopNIn
import Derived.LoopIn
import Derived.Lib.ConvBytes
import Derived.Lib.AtoiErrMem
import Derived.Shelf.Spec.TrailingZeros
import Derived.Deep.AppendLies
import Derived.Deep.RegionLaw
import Derived.Deep.RegionWith
import Derived.Deep.MidRow
import Derived.BigRegion
import Derived.OrdersIn
import Derived.Scope
import Derived.Lib.AppendZeros
import Derived.Defers
import Derived.Recover
import Derived.DeepKeys4
import Derived.Shelf.Spec.SearchS
import Derived.Laws.IdiomCopy
import Derived.Lib.ItoaNum
import Derived.Deep.CutRange
import Derived.OwnWalk
set_option linter.all false
theorem Go.RowKit.Hid.o{p:Prop}(h:Go.RowKit.Hid p):p:=h.out
def Eq.Z:=@Eq.trans
def Iff.Z:=@Iff.trans
def Go.RowKit.Below.Z:=@Go.RowKit.Below.trans
def List.IsPrefix.Z:=@List.IsPrefix.trans
def List.Perm.Z:=@List.Perm.trans
def Go.World.grownBy.Z:=@Go.World.grownBy.trans
def Eq.zy:=@Eq.symm
def Iff.zy:=@Iff.symm
def Ne.zy:=@Ne.symm
def Or.zy:=@Or.symm
def And.zy:=@And.symm
def List.Perm.zy:=@List.Perm.symm
def Go.Calls.zz:=@Go.Calls.mono
def Go.Rows.zz:=@Go.Rows.mono
def Go.CallsIn.zz:=@Go.CallsIn.mono
def Go.CallsD.zz:=@Go.CallsD.mono
def Go.RoundIn.zz:=@Go.RoundIn.mono
def Go.RowKit.Below.zz:=@Go.RowKit.Below.mono
def Go.RowKit.Below.J:=@Go.RowKit.Below.block
def Go.World.grownBy.J:=@Go.World.grownBy.block
abbrev Go.Addr.J:=@Go.Addr.block
abbrev Go.MemPlace.J:=@Go.MemPlace.block
def Go.World.ownsMap.zw:=@Go.World.ownsMap.kept
def Go.World.ownsRow.zw:=@Go.World.ownsRow.kept
def Go.RowKit.Below.zu:=@Go.RowKit.Below.grown
namespace Go.Proofs.YtfeidcmojcijpaaGreatDoor
open Go.RowKit Tryz
instance zz_cW:Coe World Nat:=⟨fun w=>w.heap.size⟩
instance zz_cL{α:Type _}:CoeOut (List α) Nat:=⟨List.length⟩
instance zz_cA:Coe Nat Addr:=⟨fun b=>⟨b,0,none⟩⟩
instance zz_cO:Coe Nat (Option Addr):=⟨fun b=>some ⟨b,0,none⟩⟩
instance zz_cP:Coe Nat Value:=⟨fun b=>.pointer (some ⟨b,0,none⟩)⟩
instance zz_cI:Coe Int Value:=⟨fun b=>.int .i64 b⟩
instance zz_cB:Coe Bool Value:=⟨fun b=>.bool b⟩
instance zz_cU:Coe Unit Value:=⟨fun _=>.slice none 0 0⟩
instance zz_cS:Coe (List UInt8) Value:=⟨fun b=>.string ⟨b.toArray⟩⟩
instance zz_cX{α:Type _}:Coe (List α) (Array α):=⟨List.toArray⟩
instance zz_cY:Coe (List UInt8) ByteArray:=⟨fun b=>⟨b.toArray⟩⟩
abbrev ah:=@Lib.hid
abbrev ap:=@if_neg
abbrev au:=@if_pos
abbrev ay:=@Nat.le_refl
abbrev aA:=@Below.refl
abbrev aF:=@List.getElem?_eq_some_iff
abbrev aH:=@Nat.zero_le
abbrev aK:=@List.mem_of_getElem?
abbrev aN:=@heap_alloc_new
abbrev aS:=@lt_of_block
abbrev aW:=@Nat.le_trans
abbrev aY:=@World.ownsRow.lt
abbrev bj:=@cell_of_row
abbrev bn:=@List.length_map
abbrev br:=@Below.heap_alloc
abbrev bH:=@List.take_add_one
abbrev bI:=@List.take_of_length_le
abbrev bR:=@List.getElem?_map
abbrev bP:=@World.size_alloc
abbrev bX:=@List.mem_cons
abbrev cf:=@decide_eq_true_eq
abbrev ck:=@List.length_append
abbrev cm:=@World.ownsRow.kept
abbrev ct:=@List.set_cons_succ
abbrev cB:=@List.getD_eq_getElem?_getD
abbrev cH:=@Nat.zero_add
abbrev cM:=@Bool.and_eq_true
abbrev cQ:=@bodyPost_ret
abbrev cV:=@List.getElem?_eq_getElem
abbrev cW:=@World.ownsRow_nil
abbrev cZ:=@info_parts
abbrev dd:=@decide_eq_false_iff_not
abbrev dk:=@List.mem_append
abbrev dp:=@World.ownsRow.alloc
abbrev dA:=@Bool.or_eq_true
abbrev dF:=@beq_eq_false_iff_ne
abbrev dL:=@List.mem_map
abbrev dM:=@List.mem_cons_of_mem
abbrev dU:=@Classical.byContradiction
abbrev dZ:=@List.map_cons
abbrev cK:=@List.setIfInBounds_toArray
abbrev ef:=@List.length_cons
abbrev eh:=@List.length_take
abbrev ei:=@Tryz.underlying3
abbrev ej:=@World.cell?_of_block
abbrev eC:=@List.getElem?_append_left
abbrev eJ:=@Lib.size_eq
abbrev eK:=@World.putObj_heap_other
abbrev eT:=@List.mem_range
abbrev eU:=@Nat.lt_of_lt_of_le
abbrev eF:=@World.size_setCell
abbrev eV:=@List.mem_cons_self
abbrev fm:=@List.sum_cons
abbrev fp:=@Option.toList_some
abbrev ft:=@Bool.eq_iff_iff
abbrev cR:=@List.set_cons_zero
abbrev gp:=@List.getElem?_append_right
abbrev gq:=@Below.heap_setCell
abbrev gA:=@congrArg
abbrev gK:=@Classical.em
abbrev gL:=@List.map_append
abbrev gM:=@Option.getD_some
abbrev gN:=@List.length_nil
abbrev gO:=@mem_ready
abbrev ig:=@List.take_append_drop
abbrev ix:=@if_true
abbrev iy:=@if_false
abbrev iI:=@Tryz.underlying9
abbrev iJ:=@Array.getElem?_eq_some_iff
abbrev iS:=@decide_eq_true
abbrev iU:=@List.getElem?_toArray
abbrev iV:=@wpList_append_own
abbrev iW:=@Bool.false_eq_true
abbrev iX:=@Bool.not_eq_true
abbrev iY:=@Maps.int_keyed
abbrev jw:=@List.getElem?_cons_succ
abbrev jx:=@List.any_eq_true
abbrev jJ:=@List.mem_filter
abbrev jK:=@List.cons_append
abbrev jL:=@List.getElem?_eq_none
abbrev jM:=@Tryz.underlying53
abbrev j9:=@Tryz.underlying41
abbrev ka:=@bne_iff_ne
abbrev ke:=@List.all_eq_true
abbrev kf:=@World.grownBy_alloc
abbrev kE:=@of_decide_eq_true
abbrev kF:=@Nat.lt_or_ge
abbrev kG:=@wpOpIn_step
abbrev kH:=@getD_in
abbrev kI:=@wpList_append_lies
abbrev lf:=@List.length_filter_le
abbrev lh:=@callsIn_wide
abbrev li:=@World.cell?_setCell_other
abbrev lj:=@Tryz.underlying223
abbrev lS:=@List.nodup_cons
abbrev lT:=@Tryz.underlying72
abbrev lV:=@List.length_drop
abbrev lW:=@Array.ext'
abbrev lX:=@Option.some.injEq
abbrev lY:=@List.mem_map_of_mem
abbrev lZ:=@Nat.add_assoc
abbrev l4:=@Tryz.underlying233
abbrev l6:=@List.length_set
abbrev l8:=@Int.toNat_of_nonneg
abbrev mQ:=@Ne.symm
abbrev mR:=@List.getElem?_cons_zero
abbrev mT:=@List.drop_eq_getElem_cons
abbrev mU:=@List.getElem?_of_mem
abbrev nD:=@List.getElem?_replicate
abbrev nE:=@beq_iff_eq
abbrev nF:=@List.any_eq_false
abbrev nG:=@step_append_lies
abbrev nH:=@Int.toNat_natCast
abbrev oh:=@Nat.testBit_and
abbrev ol:=@List.take_length
abbrev om:=@Maps.string_keyed
abbrev ou:=@Bool.false_or
abbrev ox:=@IntWalk.i64_in
abbrev oy:=@Bool.and_eq_false_iff
abbrev oA:=@List.foldl_cons
abbrev pk:=@List.filter_append
abbrev pl:=@Array.getElem?_eq_getElem
abbrev pm:=@List.mem_singleton
abbrev pp:=@List.eq_nil_of_length_eq_zero
abbrev pq:=@run_makeMap
abbrev pr:=@List.contains_iff_mem
abbrev qy:=@Nat.sub_self
abbrev qz:=@Nat.testBit_or
abbrev qA:=@List.flatMap_append
abbrev qB:=@List.length_replicate
abbrev qC:=@List.any_append
abbrev qD:=@decide_eq_false
abbrev qE:=@List.nil_append
abbrev qG:=@List.mem_iff_getElem?
abbrev qH:=@Option.map_eq_some_iff
abbrev qI:=@Lib.wpList_append_run
abbrev qJ:=@Option.map_some
abbrev qK:=@Array.getElem?_setIfInBounds_ne
abbrev rX:=@Nat.min_eq_left
abbrev rY:=@Nat.add_zero
abbrev rZ:=@Nat.pow_le_pow_right
abbrev r8:=@List.count_append
abbrev r9:=@List.map_nil
abbrev se:=@List.drop_of_length_le
abbrev sf:=@Exit.noGoto_ret
abbrev sh:=@List.mem_flatMap
abbrev si:=@List.le_antisymm
abbrev sj:=@run_make
abbrev sk:=@Nat.le_succ
abbrev sm:=@World.cell?_setCell_same'
abbrev sr:=@Tryz.underlying237
abbrev su:=@List.getElem?_set_self
abbrev tV:=@Nat.lt_trichotomy
abbrev tW:=@List.range_succ
abbrev tX:=@List.filter_cons
abbrev tY:=@Nat.lt_irrefl
abbrev tZ:=@List.flatMap_cons
abbrev qF:=@List.append_assoc
abbrev ud:=@Bool.false_and
abbrev ue:=@List.pairwise_cons
abbrev ug:=@World.frozen?_of_block
abbrev uh:=@List.not_mem_nil
abbrev ui:=@or_false
abbrev uj:=@List.take_set
abbrev uk:=@yieldsIf_load_mid
abbrev um:=@List.replicate_succ
abbrev un:=@List.getElem?_set_ne
abbrev wh:=@List.length_singleton
abbrev wi:=@List.length_range
abbrev wj:=@Nat.mul_one
abbrev wu:=@Nat.zero_mul
abbrev wv:=@List.getElem_mem
abbrev ww:=@Prod.mk.injEq
abbrev wI:=@List.append_nil
abbrev wJ:=@Bool.true_and
abbrev wK:=@List.takeWhile_cons_of_pos
abbrev wL:=@List.takeWhile_cons_of_neg
abbrev wM:=@UInt8.toNat_inj
abbrev wN:=@List.dropWhile_sublist
abbrev wO:=@Oper.semAt_some
abbrev wP:=@World.putObj_heap_same
abbrev wQ:=@List.le_total
abbrev wS:=@Nat.le_add_right
abbrev wT:=@Maps.keyOf_int_mk
abbrev wU:=@Array.toList_setIfInBounds
abbrev wV:=@List.set_eq_of_length_le
abbrev wW:=@World.ownsRow.frozenAt
abbrev wX:=@Option.bind_some
abbrev wY:=@wpAnyH_ready
abbrev wZ:=@AllReadyH.cons
abbrev xd:=@AllReadyH.nil
abbrev xe:=@ready_mono
abbrev xf:=@Nat.mul_le_mul_left
abbrev xh:=@Act.put_comm
abbrev xi:=@Tryz.underlying180
abbrev zx:=@List.mem_erase_of_ne
abbrev zy:=@List.length_pos_of_mem
abbrev zz:=@List.nodup_iff_pairwise_ne
abbrev zA:=@List.eq_nil_or_concat
abbrev zB:=@List.concat_eq_append
abbrev zC:=@List.nodup_range
abbrev zD:=@Array.getElem_modify_self
abbrev zE:=@List.count_le_length
abbrev zF:=@List.mem_mergeSort
abbrev zH:=@World.ownsRow.cellAt
abbrev zI:=@Calls.quiet_of_same
abbrev zJ:=@List.takeWhile_sublist
abbrev zK:=@ByteArray.ext
abbrev zL:=@Tryz.underlying50
abbrev zM:=@Nat.eq_zero_or_pos
abbrev zN:=@List.getElem?_drop
abbrev zO:=@wpIn_wide
abbrev zP:=@List.map_take
abbrev zQ:=@List.ext_getElem?
abbrev zR:=@Bool.not_eq_true'
abbrev zS:=@List.le_trans
abbrev wR:=@Sem.run_pure
abbrev zT:=@List.take_succ_cons
abbrev zU:=@Calls.mono
abbrev zV:=@List.length_pos_iff
abbrev zW:=@List.Perm.refl
abbrev zX:=@List.length_eq_zero_iff
abbrev zY:=@Tryz.underlying239
abbrev zZ:=@Nat.succ_mul
abbrev z6:=@List.map_map
abbrev z7:=@List.getElem?_mapIdx
abbrev sw:=@Tryz.underlying36
abbrev CX:=@List.map_congr_left
abbrev CY:=@List.length_erase_of_mem
abbrev CZ:=@List.take_take
abbrev C0:=@List.filter_eq_nil_iff
abbrev C1:=@Nat.testBit_lt_two_pow
abbrev C2:=@Nat.or_lt_two_pow
abbrev C3:=@bits_and_u64_nat
abbrev C4:=@List.all_eq_false
abbrev C5:=@Lib.compact_length_le
abbrev C6:=@List.take_left
abbrev C7:=@World.ownsMap_made
abbrev C8:=@WideMaps.keyOf_string_mk
abbrev C9:=@wpList_mapUpdate_own
abbrev Db:=@List.count_pos_iff
abbrev Dc:=@Lib.extract_data
abbrev Dd:=@List.size_toArray
abbrev De:=@Array.replicate_succ
abbrev Df:=@Array.replicate_zero
abbrev Dg:=@List.push_toArray
abbrev Dh:=@List.append_toArray
abbrev Di:=@World.alloc_heap_new
abbrev Dj:=@CallsIn.inRound
abbrev Dk:=@List.drop_length
abbrev Dl:=@run_takeDeferred
abbrev Dm:=@List.contains_eq_any_beq
abbrev Dn:=@List.any_cons
abbrev Do:=@List.mem_append_left
abbrev Dp:=@Int.tdiv_eq_ediv_of_nonneg
abbrev Dq:=@Sem.run_bind
abbrev Dt:=@World.block_lt_of_cell?
abbrev Du:=@List.drop_zero
abbrev Dv:=@Nat.mul_le_mul_right
abbrev Dw:=@Nat.le_of_eq
abbrev Dx:=@getD_set_ne
abbrev Dy:=@Nat.add_comm
abbrev Dz:=@List.nodup_nil
abbrev DB:=@callsD_of_wpS
abbrev DC:=@leaves_cons
abbrev DD:=@List.idxOf_lt_length_of_mem
abbrev DE:=@Tryz.underlying294
abbrev DF:=@Option.isSome_some
abbrev DG:=@List.set_append_right
abbrev DH:=@toList_madeCells_one
abbrev DI:=@List.eq_of_mem_replicate
abbrev DJ:=@Nat.le_of_lt
abbrev DK:=@List.mem_or_eq_of_mem_set
abbrev DL:=@of_decide_eq_false
abbrev Kd:=@List.dropLast_concat_getLast
abbrev Ke:=@List.nodup_append
abbrev Kf:=@List.mem_of_mem_take
abbrev Kg:=@List.Pairwise.filter
abbrev Kh:=@Nat.pow_lt_pow_right
abbrev Ki:=@Nat.lt_of_le_of_lt
abbrev Kj:=@bits_or_u64_nat
abbrev Kk:=@List.headD_eq_head?_getD
abbrev Kl:=@List.head?_eq_getElem?
abbrev Km:=@Bool.eq_false_iff
abbrev Kn:=@Lib.holds_of_ownsRow
abbrev Ko:=@List.contains_cons
abbrev Kq:=@Maps.has_put_same
abbrev Kr:=@Maps.has_put_other
abbrev Ks:=@List.mem_filterMap
abbrev Kt:=@wpList_lookup_own_ok_int
abbrev Ku:=@List.length_mergeSort
abbrev Kv:=@List.cons.injEq
abbrev Kw:=@Nat.lt_pow_two_of_testBit
abbrev Kx:=@Nat.add_sub_cancel_left
abbrev Ky:=@beq_self_eq_true
abbrev Kz:=@Lib.run_eql_slice_nil
abbrev KF:=@World.ownsRow_made
abbrev KG:=@Tryz.underlying355
abbrev KH:=@callsIn_of_wp_marks
abbrev KI:=@decide_eq_decide
abbrev KJ:=@List.foldl_append
abbrev KK:=@List.find?_append
abbrev KL:=@Int.tmod_eq_emod_of_nonneg
abbrev KM:=@Nat.and_le_right
abbrev KN:=@World.cell?_setCell_same
abbrev KO:=@run_loadVar_mid
abbrev Dr:=@Result.andThen_ok
abbrev KP:=@wp_region_still_tail
abbrev KQ:=@List.drop_succ_cons
abbrev KR:=@Tryz.underlying221
abbrev KS:=@List.mem_append_right
abbrev KT:=@List.sizeOf_lt_of_mem
abbrev KU:=@Nat.zero_testBit
abbrev KV:=@Tryz.underlying34
abbrev KW:=@List.idxOf_append
abbrev KX:=@List.foldlM_append
abbrev KY:=@Tryz.underlying106
abbrev KZ:=@Tryz.underlying240
abbrev K1:=@Option.getD_none
abbrev K2:=@Option.isSome_none
abbrev K4:=@Tryz.underlying29
abbrev K6:=@Nat.eq_of_testBit_eq
abbrev K7:=@IntKind.wrap_i64
abbrev K8:=@Tryz.underlying46
abbrev Wr:=@Nat.testBit_two_pow_mul_add
abbrev Ws:=@Tryz.slices_Sort_string_none
abbrev Wt:=@Tryz.slices_Compact_string_empty
abbrev Wu:=@Lib.run_convert_string_bytes
abbrev Wv:=@Array.getElem?_setIfInBounds
theorem ad{p:Prop}(h:p:=by omega):p:=h
theorem az{p:Prop}(h:p:=by kernel_rfl):p:=h
theorem aj{p:Prop}(h:p:=by simp):p:=h
theorem aq{p:Prop}(h:p:=by decide):p:=h
theorem aD{p:Prop}(h:p:=by go_num):p:=h
theorem aO{p:Prop}(h:p:=by simp;omega):p:=h
theorem bO{p:Prop}(h:p:=by unfold maxLen;omega):p:=h
theorem dj{p:Prop}(h:p:=by simp only[bP];omega):p:=h
theorem fX{p:Prop}(h:p:=by assumption):p:=h
theorem eY{p:Prop}(h:p:=by trivial):p:=h
theorem fU{α:Type}[BEq α][LawfulBEq α]{a b:α}(h:a≠b:=by omega):(a==b)=false:=dF.2 h
theorem qQ{α:Type}[BEq α][LawfulBEq α]{a b:α}(h:a=b:=by omega):(a==b)=true:=nE.2 h
theorem am{α:Sort _}(a:α):∃x,x=a:=⟨a,rfl⟩
theorem bT{p:Prop}[Decidable p](h:p:=by omega):decide p=true:=iS h
theorem bU{p:Prop}[Decidable p](h:¬p:=by omega):decide p=false:=qD h
theorem aM{p:Prop}(h:p:=by simp[intOf];omega):p:=h
theorem ak{w:World}{g:Nat}{cs:Array Value}{t:TypeId}{fr:Nat×Nat}(j:Nat)(hg:w.heap[g]?=some (.cells cs t fr)):w.cell? ⟨g,j,none⟩=cs[j]?:=bj w g j cs t fr hg
theorem vz{P:Program}{md:Region.Mode}{ops:Array Oper}{Q:Exit→Act→World→Prop}{S:World→Prop}{i:Nat}{oi:Oper}{v:Value}{fuel:Nat}{listed:Array Bool}{a:Act}{w:World}(hi:ops[i]?=some oi)(hy:YieldsIf P ops S oi v a)(hS:S w)(h:wpAnyH P md ops Q S fuel (listed.setIfInBounds i true) (a.put oi.dst v) w)(hs:Region.noSelect ops=true:=by kernel_rfl)(hf:Region.free md ops listed i=true:=by kernel_rfl)(hr:(Region.ready md ops listed).contains i=true:=by kernel_rfl)(hQ:∀c a w,Q (.panic c) (a.put oi.dst v) w→Q (.panic c) a w:=by exact fun _ _ _ h=>h):wpAnyH P md ops Q S (fuel+1) listed a w:=wpAnyH_take hi hs hf hr hQ hy hS h
theorem oW{P:Program}{md:Region.Mode}{ops:Array Oper}{Q:Exit→Act→World→Prop}{S:World→Prop}{i:Nat}{oi:Oper}{v:Value}{fuel:Nat}{listed:Array Bool}{a:Act}{w:World}(hi:ops[i]?=some oi)(hS:S w)(h:wpAnyH P md ops Q S fuel (listed.setIfInBounds i true) (a.put oi.dst v) w)(hy:YieldsIf P ops S oi v a:=by exact Or.inl ⟨by rfl,by intro wy hSw;(try dsimp only at hSw);go_simp;try with_reducible rfl⟩)(hs:Region.noSelect ops=true:=by kernel_rfl)(hf:Region.free md ops listed i=true:=by kernel_rfl)(hr:(Region.ready md ops listed).contains i=true:=by kernel_rfl)(hQ:∀c a w,Q (.panic c) (a.put oi.dst v) w→Q (.panic c) a w:=by exact fun _ _ _ h=>h):wpAnyH P md ops Q S (fuel+1) listed a w:=wpAnyH_take hi hs hf hr hQ hy hS h
theorem dy(a:World)(o:Obj):∃w,w=a.alloc o∧Below a.heap.size a w∧w.heap[a.heap.size]?=some o:=⟨_,rfl,(aA _ a).alloc (ay _) _,aN a o⟩
theorem fQ(a:World)(o:Obj):∃w,w=a.alloc o∧Below a.heap.size a w:=⟨_,rfl,(aA _ a).alloc (ay _) _⟩
theorem aP{w:World}{o:Obj}:Below w.heap.size w (w.alloc o):=(aA _ w).alloc (ay _) _
theorem df{α:Type _}(l:List α)(k:Nat)(h:k<l.length:=by omega):∃x,l[k]?=some x:=⟨_,cV h⟩
theorem aT{α:Type _}{l:List α}{k:Nat}(h:k<l.length):∃x,l[k]?=some x:=⟨_,cV h⟩
theorem bC{k n:Nat}(h:k<n):decide ((k:Int)<n)=true:=by rw[cf];omega
theorem bG{k n:Nat}(h:¬k<n):decide ((k:Int)<n)=false:=by rw[dd];omega
theorem od{k n:Nat}(h:k<n):decide (k<n)=true:=iS h
theorem mH{k n:Nat}(h:¬k<n):decide (k<n)=false:=qD h
theorem bk{k n:Nat}(h:k<n):(k:Int)<n:=Int.ofNat_lt.2 h
theorem aL(k:Nat):(0:Int)≤k:=Int.natCast_nonneg k
theorem aQ{q p:Prop}(h:q)(f:q→p:=by intro h;omega):p:=f h
theorem jO{q r p:Prop}(h:q)(i:r)(f:q→r→p:=by intro h i;omega):p:=f h i
theorem iC{w v:World}{o:Obj}(h:v=w.alloc o):v.heap[w.heap.size]?=some o:=h▸aN w o
theorem fH{w v:World}{o:Obj}(h:v=w.alloc o):v.heap.size=w.heap.size+1:=by rw[h];simp
theorem kj{w v:World}{o:Obj}(h:v=w.alloc o):Below w.heap.size w v:=h▸(aA _ w).alloc (ay _) _
theorem ku{w:World}{g:Nat}{cs:Array Value}{t:TypeId}{fr:Nat×Nat}(h:w.heap[g]?=some (.cells cs t fr)):w.cell? ⟨g,0,none⟩=cs[0]?∧w.cell? ⟨g,1,none⟩=cs[1]?:=⟨bj w g 0 cs t fr h,bj w g 1 cs t fr h⟩
theorem dP{w:World}{g:Nat}{cs:Array Value}{t:TypeId}{fr:Nat×Nat}(h:w.heap[g]?=some (.cells cs t fr)):w.cell? ⟨g,0,none⟩=cs[0]?∧w.cell? ⟨g,1,none⟩=cs[1]?∧w.cell? ⟨g,2,none⟩=cs[2]?:=⟨bj w g 0 cs t fr h,bj w g 1 cs t fr h,bj w g 2 cs t fr h⟩
theorem dC{w:World}{g:Nat}{cs:Array Value}{t:TypeId}{fr:Nat×Nat}(h:w.heap[g]?=some (.cells cs t fr)):w.cell? ⟨g,0,none⟩=cs[0]?∧w.cell? ⟨g,1,none⟩=cs[1]?∧w.cell? ⟨g,2,none⟩=cs[2]?∧w.cell? ⟨g,3,none⟩=cs[3]?:=⟨bj w g 0 cs t fr h,bj w g 1 cs t fr h,bj w g 2 cs t fr h,bj w g 3 cs t fr h⟩
theorem rE{G g:Prop}(x:G)(e:PLift G→g:=by intro q;(first | ((with_reducible apply Wx); exact rfl; exact rfl; exact rfl) | ((with_reducible apply WC); exact rfl; exact rfl; exact rfl) | ((with_reducible apply Wy); exact rfl; exact rfl; exact rfl) | ((with_reducible apply Wz); exact rfl; exact rfl; exact rfl));exact q.down):g:=e ⟨x⟩
theorem ym{G g:Prop}(x:G)(e:PLift G→g:=by intro q;(with_reducible apply wpList_load_mid (ty := 221)); exact rfl; exact rfl; exact rfl; assumption; exact KR; exact rfl; exact Ba;exact q.down):g:=e ⟨x⟩
theorem kX{G g:Prop}(x:G)(e:PLift G→g:=by intro q;(with_reducible apply Ww (ty := 223)); exact rfl; exact rfl; exact rfl; exact rfl; assumption; exact kn; exact Pj _;exact q.down):g:=e ⟨x⟩
theorem uZ{G g:Prop}(x:G)(e:PLift G→g:=by intro q;(with_reducible apply wpList_load_mid (ty := 223)); exact rfl; exact rfl; exact rfl; assumption; exact lj; exact rfl; exact kn;exact q.down):g:=e ⟨x⟩
theorem WG{G g:Prop}(x:G)(e:PLift G→g:=by intro q;(with_reducible apply Ww (ty := 216)); exact rfl; exact rfl; exact rfl; exact rfl; assumption; exact Pu; exact WD _ _ _;exact q.down):g:=e ⟨x⟩
theorem Bf{G g:Prop}(x:G)(e:PLift G→g:=by intro q;(with_reducible apply Ww (ty := 221)); exact rfl; exact rfl; exact rfl; exact rfl; assumption; exact Ba; exact uX _;exact q.down):g:=e ⟨x⟩
theorem lJ{G g:Prop}(x:G)(e:PLift G→g:=by intro q;(with_reducible apply wpList_load_mid (ty := 233)); exact rfl; exact rfl; exact rfl; assumption; exact l4; exact rfl; exact kx;exact q.down):g:=e ⟨x⟩
theorem nj{G g:Prop}(x:G)(e:PLift G→g:=by intro q;(with_reducible apply Ww (ty := 233)); exact rfl; exact rfl; exact rfl; exact rfl; assumption; exact kx; exact uX _;exact q.down):g:=e ⟨x⟩
theorem vn{G g:Prop}(x:G)(e:PLift G→g:=by intro q;(with_reducible apply wpList_load_mid (ty := 239)); exact rfl; exact rfl; exact rfl; assumption; exact zY; exact rfl; exact RI;exact q.down):g:=e ⟨x⟩
theorem BW{G g:Prop}(x:G)(e:PLift G→g:=by intro q;(with_reducible apply Ww (ty := 239)); exact rfl; exact rfl; exact rfl; exact rfl; assumption; exact RI; exact BO _;exact q.down):g:=e ⟨x⟩
theorem ar{P:Program}{f:FuncId}{s:Array Value}{w:World}{v:Ending}{R:World→Prop}{Q:Ending→World→Prop}(c:Calls P f s w fun e u=>e=v∧R u)(h:∀u,R u→Q v u):Calls P f s w Q:=c.mono fun _ u y=>y.1▸h u y.2
theorem WJ{C G g:Prop}(c:C)(x:G)(e:Hid C→Hid G→g:=by intro c q;go_wp2_with fail;refine c.out.mono ?_;exact q.out):g:=e (ah c) (ah x)
theorem Fn{P:Program}{f:FuncId}{s:Array Value}{w:World}{v:Ending}{R:World→Prop}{G g:Prop}(c:Calls P f s w fun e u=>e=v∧R u)(x:G)(e:Hid (Calls P f s w fun e u=>e=v∧R u)→Hid G→g:=by intro c q;go_wp2_with fail;refine ar c.out ?_;exact q.out):g:=e (ah c) (ah x)
theorem qN{G g:Prop}(x:G)(e:Hid G→g:=by intro q;go_wp2;go_roundw;(case rel=>exact q.out);(case measure=>simp[intOf];omega)):g:=e (ah x)
theorem aC{Pa Pb:Prop}(a:Pa)(b:Pb):Hid Pa∧Hid Pb:=⟨ah a,ah b⟩
theorem bm{Pa Pb Pc:Prop}(a:Pa)(b:Pb)(c:Pc):Hid Pa∧Hid Pb∧Hid Pc:=⟨ah a,ah b,ah c⟩
theorem dE{Pa Pb Pc Pd:Prop}(a:Pa)(b:Pb)(c:Pc)(d:Pd):Hid Pa∧Hid Pb∧Hid Pc∧Hid Pd:=⟨ah a,ah b,ah c,ah d⟩
theorem iz{Pa Pb Pc Pd Pe:Prop}(a:Pa)(b:Pb)(c:Pc)(d:Pd)(e:Pe):Hid Pa∧Hid Pb∧Hid Pc∧Hid Pd∧Hid Pe:=⟨ah a,ah b,ah c,ah d,ah e⟩
theorem iL{Pa Pb Pc Pd Pe Pf:Prop}(a:Pa)(b:Pb)(c:Pc)(d:Pd)(e:Pe)(f:Pf):Hid Pa∧Hid Pb∧Hid Pc∧Hid Pd∧Hid Pe∧Hid Pf:=⟨ah a,ah b,ah c,ah d,ah e,ah f⟩
theorem td{Pa Pb Pc Pd Pe Pf Pg:Prop}(a:Pa)(b:Pb)(c:Pc)(d:Pd)(e:Pe)(f:Pf)(g:Pg):Hid Pa∧Hid Pb∧Hid Pc∧Hid Pd∧Hid Pe∧Hid Pf∧Hid Pg:=⟨ah a,ah b,ah c,ah d,ah e,ah f,ah g⟩
theorem rx{Pa Pb Pc Pd Pe Pf Pg Ph:Prop}(a:Pa)(b:Pb)(c:Pc)(d:Pd)(e:Pe)(f:Pf)(g:Pg)(h:Ph):Hid Pa∧Hid Pb∧Hid Pc∧Hid Pd∧Hid Pe∧Hid Pf∧Hid Pg∧Hid Ph:=⟨ah a,ah b,ah c,ah d,ah e,ah f,ah g,ah h⟩
theorem BV{Pa Pb Pc Pd Pe Pf Pg Ph Pi:Prop}(a:Pa)(b:Pb)(c:Pc)(d:Pd)(e:Pe)(f:Pf)(g:Pg)(h:Ph)(i:Pi):Hid Pa∧Hid Pb∧Hid Pc∧Hid Pd∧Hid Pe∧Hid Pf∧Hid Pg∧Hid Ph∧Hid Pi:=⟨ah a,ah b,ah c,ah d,ah e,ah f,ah g,ah h,ah i⟩
theorem jB{Pa Pb Pc Pd Pe Pf Pg Ph Pi Pj:Prop}(a:Pa)(b:Pb)(c:Pc)(d:Pd)(e:Pe)(f:Pf)(g:Pg)(h:Ph)(i:Pi)(j:Pj):Hid Pa∧Hid Pb∧Hid Pc∧Hid Pd∧Hid Pe∧Hid Pf∧Hid Pg∧Hid Ph∧Hid Pi∧Hid Pj:=⟨ah a,ah b,ah c,ah d,ah e,ah f,ah g,ah h,ah i,ah j⟩
structure Is{α:Type _}(v:α)
instance{α:Type _}{v:α}:CoeOut (Is v) α:=⟨fun _=>v⟩
def fe:Is (#[.int .u64 0,.int .u64 0,.int .u64 0,.int .u64 0,.int .u64 0,.int .u64 0,.int .u64 0,.int .u64 0,.int .u64 0,.int .u64 0,.int .u64 0,.int .u64 0,.int .u64 0,.int .u64 0,.int .u64 0,.int .u64 0]:Array Value):={}
def dx:Is (#[.slice none 0 0,.slice none 0 0,.slice none 0 0]:Array Value):={}
def ik:Is (#[.string ⟨#[]⟩,.string ⟨#[]⟩,.slice none 0 0,.slice none 0 0]:Array Value):={}
def fZ{α β:Type}(a b:List UInt8)(c:Option Addr)(d:List α)(e:Nat)(f:Option Addr)(g:List β)(h:Nat):Is (#[.string ⟨a.toArray⟩,.string ⟨b.toArray⟩,.slice c d.length e,.slice f g.length h]:Array Value):={}
def gT{α β:Type}(a b:List UInt8)(c:Option Addr)(d:List α)(e:Nat)(k:List UInt8)(t:Bool)(f:Option Addr)(g:List β)(h:Nat):Is (#[.string ⟨a.toArray⟩,.string ⟨b.toArray⟩,.slice c d.length e,.string ⟨k.toArray⟩,.bool t,.slice f g.length h]:Array Value):={}
def zz_m3{α:Type}(o:Option Addr)(l:List α)(c F U:Nat):Is (#[.slice o l.length c,.slice (some ⟨F,0,none⟩) l.length l.length,.slice (some ⟨U,0,none⟩) l.length l.length]:Array Value):={}
instance{p:Prop}:CoeSort (Is p) Prop:=⟨fun _=>p⟩
def dB f s w q:Is (Calls prog f s w q):={}
def de f s w (v:Value) (R:World→Prop):Is (Calls prog f s w fun e u=>e=.returned v∧R u):={}
def cX f s w (v:Value):Is (Calls prog f s w fun e u=>e=.returned v∧Below w.heap.size w u):={}
def kq (w:World) (g:Nat) (a:Array Value) (t:TypeId):Is (w.heap[g]?=some (.cells a t)):={}
def gC (w:World) (g j:Nat) (v:Value):Is (w.cell? ⟨g,j,none⟩=some v):={}
def aR (w u:World):Is (Below w.heap.size w u):={}
def cT (w:World) (a:Array Value) (t:TypeId):Is (w.alloc (.cells a t)):={}
end Go.Proofs.YtfeidcmojcijpaaGreatDoor
