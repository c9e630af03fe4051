/- Words for this seat's texts: steps that stand alike in many places, each under a name. No condition. -/
import Derived.ArgAppend
import Derived.Below
import Derived.BigQuiet
import Derived.Deep.AppendLies
import Derived.Deep.CutBlock
import Derived.Deep.DeepCutAuto
import Derived.Deep.Draws
import Derived.Deep.LoopGhost
import Derived.Deep.OwnRows
import Derived.Deep.QuietTactic
import Derived.Deep.RegionHeld3
import Derived.KernelRfl
import Derived.Laws.BitsLemmas
import Derived.Laws.BytesArg
import Derived.Laws.IdiomCopy
import Derived.Laws.MakeOwn
import Derived.Laws.OwnMore
import Derived.Laws.Rows
import Derived.Laws.Slices
import Derived.Lib.AppendStr
import Derived.Lib.ConvBytes
import Derived.Maps.AppendAt
import Derived.OrdersHeld
import Derived.OwnWalk
import Derived.RowKit
import Derived.RowKit3
import Derived.Tactics
import Derived.Test.YthoamjobclfjjaaProg
import Derived.Test.YthoamjobclfjjaaRH
import Derived.Test.YthoamjobclfjjaaWApart
import Derived.Test.YthoamjobclfjjaaWArr
import Derived.Test.YthoamjobclfjjaaWAt
import Derived.Test.YthoamjobclfjjaaWEqStruct
import Derived.Test.YthoamjobclfjjaaWFoot
import Derived.Test.YthoamjobclfjjaaWFootNe
import Derived.Test.YthoamjobclfjjaaWFour
import Derived.Test.YthoamjobclfjjaaWGuard
import Derived.Test.YthoamjobclfjjaaWInv
import Derived.Test.YthoamjobclfjjaaWInvWords
import Derived.Test.YthoamjobclfjjaaWKept
import Derived.Test.YthoamjobclfjjaaWLast
import Derived.Test.YthoamjobclfjjaaWMore
import Derived.Test.YthoamjobclfjjaaWN
import Derived.Test.YthoamjobclfjjaaWNEv
import Derived.Test.YthoamjobclfjjaaWQPut
import Derived.Test.YthoamjobclfjjaaWRepsOne
import Derived.Test.YthoamjobclfjjaaWShare
import Derived.Test.YthoamjobclfjjaaWTab
import Derived.Test.YthoamjobclfjjaaWWords
import Derived.Test.YthoamjobclfjjaaWZeros
import Derived.Test.YthoamjobclfjjaaXWords
import Derived.WalkKit
import Derived.WideLaws
namespace Go.Proofs.Ythoamjobclfjjaa.R
open Go.RowKit Go.Proofs.YthoamjobclfjjaaW.PrintWords Go.Proofs.YthoamjobclfjjaaW.PrintLast Go.Proofs.YthoamjobclfjjaaW.PrintMore
theorem cT_ {w w' : World} {p : Addr} {v : Value} (hB : Below w.heap.size w w') (hx : w.cell? p = some v) : w'.cell? p = some v := (hB.cell (World.block_lt_of_cell? w _ hx)).trans hx
section
variable {P : Program} {ops : Array Oper} {Q : Exit → Act → World → Prop}
theorem gc_ {rest : List Oper} {oi : Oper} {a : Act} {w : World} (f : FuncId) (d : Nat) {fn : Func} {as_ : Array Operand} {ts_ : Array TypeId} (hf : P.funcs[f]? = some fn) (args : Array Value) (h : Calls P f args w fun e w' => ∃ v, e = .returned v ∧ wpList P ops Q rest (a.put (some d) v) w') (hd : oi.dst = some d := by rfl) (hg : oi.guard = none := by rfl) (hop : oi.op = .call { callee := .value (.func f), args := as_, argTypes := ts_ } := by rfl) (hname : (fn.name == "runtime.NumGoroutine") = false := by kernel_rfl) (hb : fn.body.isSome = true := by rfl) (hargs : as_.map a.eval = args := by (try simp only [List.map_toArray, List.map_cons, List.map_nil]); first | done | rfl | (simp only [List.length_drop, List.length_take]; rfl) | (go_simp; done) | (simp [Act.eval, bne]; done)) : wpList P ops Q (oi :: rest) a w := goesL_ (some d) hd hg hf hname hb args hop hargs h
end
theorem a_ {p : Prop} (h : p) : Aside0 p := ⟨h⟩
theorem t_ : True := True.intro
abbrev T_ : Bool := true
abbrev F_ : Bool := false
theorem zr_ {p : Prop} (h : p := by rfl) : p := h
theorem zs_ {p : Prop} (h : p := by first | (go_simp; done) | (go_simp; rfl)) : p := h
theorem z0_ {p : Prop} (h : p := by first | (rw [hy_]; with_reducible exact H) | (have H2_ := (Option.bind_some _ _).symm.trans H; rw [hy_]; with_reducible exact H2_) | (have H2_ := (Option.bind_some _ _).symm.trans H; with_reducible exact H2_) | with_reducible exact H | (rw [hy_]; exact H) | exact H) : p := h
theorem y0_ {p : Prop} (h : p := by repeat (first | (with_reducible first | exact HB.out | apply below_alloc | apply pw_below_drewN | apply below_drew1) | exact HB.out)) : p := h
theorem y1_ {p : Prop} (h : p := by repeat (first | exact Drawn0.refl _ | apply Drawn0.step)) : p := h
theorem y2_ {p : Prop} (h : p := by first | rfl | (simp; done) | (simp [*]; done)) : p := h
theorem y3_ {p : Prop} (h : p := by repeat (first | (with_reducible first | exact HB.out | apply below_alloc | apply pw_below_drewN | apply below_drew1 | refine below_set ?_ GE9005454.out) | exact HB.out)) : p := h
theorem y4_ {p : Prop} (h : p := by (with_reducible repeat (first | refine blk_drewN ?_ _ | refine blk_drew ?_ | refine blk_alloc ?_ _)); exact BK9005454.out) : p := h
theorem y5_ {p : Prop} (h : p := by first | (with_reducible assumption) | assumption) : p := h
theorem y6_ {p : Prop} (h : p := by repeat (first | (with_reducible first | exact HB.out | apply below_alloc | apply pw_below_drewN | apply below_drew1 | refine below_set ?_ GE9052867.out) | exact HB.out)) : p := h
theorem y7_ {p : Prop} (h : p := by (with_reducible repeat (first | refine blk_drewN ?_ _ | refine blk_drew ?_ | refine blk_alloc ?_ _)); refine blk_put (cs := #[.int .i64 tx0, .string (⟨#[]⟩ : ByteArray)]) ?_ 1 _ rfl; (with_reducible repeat (first | refine blk_drewN ?_ _ | refine blk_drew ?_ | refine blk_alloc ?_ _)); refine blk_put (cs := #[.int .i64 0, .string (⟨#[]⟩ : ByteArray)]) ?_ 0 _ rfl; (with_reducible repeat (first | refine blk_drewN ?_ _ | refine blk_drew ?_ | refine blk_alloc ?_ _)); exact BK9005454.out) : p := h
theorem y8_ {p : Prop} (h : p := by (with_reducible repeat (first | refine blk_drewN ?_ _ | refine blk_drew ?_ | refine blk_alloc ?_ _)); refine blk_put (cs := #[.int .i64 0, .string (⟨#[]⟩ : ByteArray)]) ?_ 1 _ rfl; (with_reducible repeat (first | refine blk_drewN ?_ _ | refine blk_drew ?_ | refine blk_alloc ?_ _)); refine blk_put (cs := #[.int .i64 0, .string (⟨#[]⟩ : ByteArray)]) ?_ 0 _ rfl; (with_reducible repeat (first | refine blk_drewN ?_ _ | refine blk_drew ?_ | refine blk_alloc ?_ _)); exact BK9005454.out) : p := h
theorem y9_ {p : Prop} (h : p := by first | rfl | (simp [errW_none, errW_some] <;> rfl) | (simp [*, errW_none, errW_some] <;> rfl)) : p := h
theorem y10_ {p : Prop} (h : p := by repeat (first | (with_reducible first | exact HB.out | apply below_alloc | apply pw_below_drewN | apply below_drew1 | refine below_set ?_ GE9983307.out) | exact HB.out)) : p := h
theorem y11_ {p : Prop} (h : p := by (with_reducible repeat (first | refine blk_drewN ?_ _ | refine blk_drew ?_ | refine blk_alloc ?_ _)); exact BK9983307.out) : p := h
theorem y12_ {p : Prop} (h : p := by (with_reducible repeat (first | refine blk_drewN ?_ _ | refine blk_drew ?_ | refine blk_alloc ?_ _)); exact BK9052867.out) : p := h
theorem y13_ {p : Prop} (h : p := by repeat (first | (with_reducible first | exact HB.out | apply below_alloc | apply pw_below_drewN | apply below_drew1 | refine below_set ?_ GE9052867.out | refine below_set ?_ GE9284709.out) | exact HB.out)) : p := h
end Go.Proofs.Ythoamjobclfjjaa.R
