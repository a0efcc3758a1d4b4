/- Part 1 of the proof that reading bytes answers as the document does. No condition. -/
import Derived.OrdersHeld
import Derived.Deep.RegionHeld3
import Derived.Laws.BitsLemmas
import Derived.RowKit
import Derived.Below
import Derived.Deep.Draws
import Derived.Deep.AppendLies
import Derived.Maps.AppendAt
import Derived.OwnWalk
import Derived.Laws.BytesArg
import Derived.Laws.MakeOwn
import Derived.Laws.OwnMore
import Derived.Deep.OwnRows
import Derived.Tactics
import Derived.Lib.ConvBytes
import Derived.Laws.Slices
import Derived.WalkKit
import Derived.KernelRfl
import Derived.RowKit3
import Derived.Deep.LoopGhost
import Derived.Deep.QuietTactic
import Derived.BigQuiet
import Derived.WideLaws
import Derived.Deep.DeepCutAuto
import Derived.Deep.CutBlock
import Derived.Laws.Rows
import Derived.Lib.AppendStr
import Derived.ArgAppend
import Derived.Laws.IdiomCopy
import Derived.Deep.MidRow
import Derived.StillTail
import Derived.Test.YtpekmdpbfjdjkaaGreatRows
import Derived.ChangeArms
import Derived.Deep.Slices
import Derived.DataReads
import Derived.Laws.StructEq
import Derived.Test.YtpekmdpbfjdjkaaGreatProg
import Derived.StillTailTactics
import Derived.IntWalk
import Derived.Deep.RegionLaw
import Derived.Laws.BitsAllLaws
import Derived.Laws.CopyOwn
import Derived.Recover
import Derived.Defers
import Derived.Outline
import Derived.Laws.EntriesVeiled
import Derived.RegionTactic
import Derived.BigRegion
import Derived.Shelf.Strconv.Itoa0
import Derived.Laws.MathBits
import Derived.ProofKit
import Derived.OpenShut
import Derived.JoinedCond
import Derived.ChangeOld
set_option maxHeartbeats 16000000
set_option maxRecDepth 100000
set_option linter.all false
namespace Go
def aj:=@Option.bind_some
def ap:=@List.drop_eq_getElem_cons
def ar:=@Option.some.inj
def aA:=@Go.IntWalk.i64_in
def aC:=@List.drop_succ_cons
def aI:=@Nat.zero_le
def bM:=@List.append_nil
def a8:=@eq_true
def ga:=@List.not_mem_nil
def bh:=@List.mem_of_mem_drop
def bi:=@beq_eq_false_iff_ne
def bz:=@List.take_succ_eq_append_getElem
def bY:=@List.flatMap_cons
def bJ:=@Go.World.block_lt_of_cell?
def bP:=@Option.some.injEq
def mq:=@bne_iff_ne
def b9:=@List.length_set
def ci:=@bne_eq_false_iff_eq
def cm:=@Go.RowKit.Below.heap_alloc
def cC:=@Prod.mk.injEq
def cK:=@Nat.pow_le_pow_right
def cW:=@Array.size_push
def dg:=@Nat.lt_or_ge
def dh:=@Option.map_some
def dL:=@Int.mul_le_mul_of_nonneg_right
def cD:=@List.getElem?_append_left
def cZ:=@List.getElem?_take
def Ad:=@or_false
def dA:=@Go.Calls.quiet_of_same
def dD:=@List.foldl_cons
def di:=@List.getElem?_append_right
def eK:=@Nat.pow_succ
def fC:=@Int.le_refl
def dX:=@List.getElem?_eq_none
def ey:=@List.length_replicate
def ek:=@Nat.mul_comm
def dz:=@Nat.succ_mul
def eJ:=@Nat.le_of_lt
def fX:=@List.drop_left
def eO:=@List.eq_nil_of_length_eq_zero
def eP:=@BitVec.getLsbD_of_ge
def eT:=@Go.World.cell?_alloc_lt
def fh:=@Nat.two_pow_add_eq_or_of_lt
def fg:=@Nat.zero_add
def gf:=@Go.IntWalk.u32_in
def gj:=@Go.Calls.quiet_of
def gw:=@beq_iff_eq
def iq:=@Int.le_of_lt
def gx:=@Nat.testBit_lt_two_pow
def gy:=@List.find?_cons_of_neg
def fm:=@Go.wpList_plain
def DW:=@Bool.and_false
def gZ:=@List.drop_drop
def ij:=@Go.RowKit.Below.heap_setCell
def ik:=@Nat.add_comm
def ir:=@List.flatMap_nil
def iJ:=@Bool.true_and
def iX:=@Nat.lt_of_le_of_lt
def fW:=@Nat.le_mul_of_pos_right
def jm:=@Go.run_loadVar_row
def jq:=@List.ext_getElem?
def jr:=@Int.pow_succ
def mV:=@Int.mul_comm
def og:=@Int.mul_nonneg
def js:=@List.find?_cons_of_pos
def gQ:=@Nat.div_lt_iff_lt_mul
def gO:=@Go.bodyPost_ret
def Eb:=@List.take_append_drop
def jM:=@Nat.mod_eq_of_lt
def jO:=@List.all_cons
def j7:=@List.mem_append_left
def ke:=@Go.World.size_alloc
def iD:=@Array.length_toList
def ko:=@Go.Region.noSelect_spec
def kJ:=@Nat.le_of_eq
def kK:=@Nat.succ_add
def kY:=@BitVec.getLsbD_and
def kZ:=@BitVec.toNat_ofNat
def k7:=@List.take_zero
def j6:=@Nat.add_mul
def lM:=@List.getElem?_map
def pN:=@Int.mul_assoc
def jL:=@List.take_length
def mG:=@BitVec.toNat_xor
def nr:=@Go.wpOp_mono
def nu:=@Go.Region.free_spec
def Eu:=@Int.add_mul
def oh:=@List.foldl_nil
def ol:=@Bool.false_and
def Ex:=@Int.add_assoc
def pO:=@Go.u32_xor_nat
def sj:=@Int.zero_mul
end Go
namespace Go.Proofs.ag.aV
section
variable {P:Program} {ops:Array Oper} {Q:Exit→Act→World→Prop} {md:Region.Mode} {S:World→Prop} {ds:List Nat}
def qZ:Act→List (Tmp × Value)→Act
 | a,[]=>a
 | a,(n,v)::r=>qZ (a.put (some n) v) r
theorem yD {f:FuncId} {fn:Func} (hf:P.funcs[f]? = some fn) (hname:(fn.name == "runtime.NumGoroutine")=false) (hb:fn.body.isSome=true) (args:Array Value) (w:World):(callFunc f args).run P w = .ok (.enter f args) w:=by
 have h1:fn.name≠ "runtime.NumGoroutine" :=by simpa using hname
 obtain ⟨c,hc⟩:=Option.isSome_iff_exists.1 hb;simp [callFunc,hf,h1,hc]
theorem gW {rest:List Oper} {oi:Oper} {a:Act} {w:World} (N:Option Tmp) (hd:oi.dst=N) (hg:oi.guard=none) {f:FuncId} {fn:Func} {DQ:Array Operand} {ts:Array TypeId} (hf:P.funcs[f]? = some fn) (hname:(fn.name == "runtime.NumGoroutine")=false) (hb:fn.body.isSome=true) (args:Array Value)
 (hop:oi.op = .call { callee:= .value (.func f),args:=DQ,argTypes:=ts }) (hargs:DQ.map a.eval=args)
 (h:Calls P f args w fun e w'=>∃v,e = .returned v∧wpList P ops Q rest (a.put N v) w'):wpList P ops Q (oi::rest) a w:=by
 refine fm hg fun K hK=>?_;have he:=yD hf hname hb args w;have hrun:(execOp a.eval oi).run P w = .ok (.enter f args) w:=by
  unfold execOp;simp [hop,resolve,Deferred.ofValue,invoke,Act.eval,hargs,he]
 unfold Oper.wp;rw [hrun,Oper.upon_enter];refine h.mono fun e w'' hh=>?_;obtain ⟨v,rfl,hk⟩:=hh;subst hd;exact hK _ _ hk
theorem lj (n:Int):IntKind.i64.wrap n=Go.RowKit.wrap64 n:=by unfold Go.RowKit.wrap64;exact IntKind.wrap_i64 n
theorem oL (n:Int):IntKind.i32.wrap n=Go.RowKit.wrap32 n:=by unfold Go.RowKit.wrap32;exact IntKind.wrap_i32 n
end
end Go.Proofs.ag.aV